import PyProof.Rows.All
import HandS.ForMost
import HandS.ForExc
import HandS.IsInst
import HandS.ExcInit
import HandS.ExcField
import HandS.ExcIs
import KE.KExcIs
import HandS.Lambda
import HandS.Wide
import HandS.Gcd
import HandS.Defaults
import HandS.Style
import HandS.RaiseMore
import HandS.Evl
import HandS.Conv
import HandS.HeadHook2
import HandS.Steps
import HandS.HeadHook4
import HandS.HeadWalk
import KE.DatumIndex
import HandS.OwnEq
import HandS.TupMul
import PyProof.StrOps2
import HandS.TupAny
import HandS.Deep
import HandS.TupLen
import HandS.More
import HandS.NoneIn
import HandS.Iter
import HandS.Zip
import HandS.Comp
import HandS.MakeKw
import KE.Datum
import PySem.Challenge.RW_countsalone_k03_parts_made_and_refused
import HandS.Head0
import HandS.Head1
import HandS.Head2
import HandS.Head3
import HandS.HeadEnd
set_option Elab.async false
set_option linter.all false
set_option maxRecDepth 100000
set_option maxHeartbeats 4000000
/-! an own exception that was caught and is kept in a name behind the try: tracked as a known object -/
namespace DL
open PySem PySem.Spec PyProof.Rows L2
/-- the object at a: an exception of the class cls, its own dict d -/
def XcO (cls : Value) (d : Option Addr) (a : Addr) : HO := .ext fun h => ∃ oe : Obj, h.get? a = some oe ∧ Zc cls d oe ∧ ∃ vs, oe.data = .fields vs
theorem xcO_ok {P : Program} {w : World} {H : Hp} {h : Heap} {a : Addr} {cls : Value} {d : Option Addr} {oe : Obj} (e : h.get? a = some oe) (z : Zc cls d oe) (v : ∃ vs, oe.data = .fields vs) : ObjOk P w H h a (XcO cls d a) :=
  ⟨⟨oe, e, z, v⟩, ⟨oe, e⟩, fun _ _ ⟨o, q, r⟩ k => ⟨o, k o q, r⟩⟩
section
variable {X : Cx} {pins : List (Addr × Obj)} {σ : L2.St} {H : Hp} {s : Shared}
/-- an untracked object that is new since the entry is tracked from now on -/
theorem track {a : Addr} {oe : Obj} {cls : Value} {d : Option Addr} (I : Inv X pins σ H s) (ho : s.heap.get? a = some oe) (hz : Zc cls d oe) (hv : ∃ vs, oe.data = .fields vs) (na : H a = none)
    (nL : a ≠ X.env.locals) (n0 : X.s_0.heap.get? a = none) (np : ∀ p ∈ X.pn ++ pins, p.1 ≠ a) : Inv X pins σ (upd H a (XcO cls d a)) s := by
  have ne0 : ∀ b o, X.s_0.heap.get? b = some o → b ≠ a := fun b o e z => by
    rw [z, n0] at e
    cases e
  have neS : ∀ b u, H b = some u → b ≠ a := fun b u e => ne_of_none e na
  have cne : ∀ x c, X.env.cells.lookup x = some c → c ≠ a := fun x c e z => by
    obtain ⟨v, o, ho', hd'⟩ := I.cell x c e
    obtain ⟨vs, hvs⟩ := hv
    rw [z, ho] at ho'
    cases ho'
    rw [hvs] at hd'
    cases hd'
  refine ⟨I.ok, I.os, I.bare, ⟨I.base.keep, I.base.slot, fun b o e n hq => ?_, I.base.there, fun b xs e => ?_, fun b o u e => ?_, fun b ps e => ?_⟩, I.loc, I.cell, ?_, fun x c e => ?_, fun p hp => ?_, fun b u e => ?_, I.len⟩
  · rw [upd_ne (ne0 b o e)]
    exact I.base.free b o e n hq
  · have q := I.base.tups b xs e
    rw [upd_ne (neS b _ q)]
    exact q
  · have q := I.base.frzs b o u e
    rw [upd_ne (neS b _ q)]
    exact q
  · obtain ⟨m, q⟩ := I.base.tbls b ps e
    exact ⟨m, by rw [upd_ne (neS b _ q)]; exact q⟩
  · rw [upd_ne (Ne.symm nL)]
    exact I.free
  · rw [upd_ne (cne x c e)]
    exact I.freeC x c e
  · obtain ⟨e, n, ne, nf, dd⟩ := I.pin p hp
    exact ⟨e, by rw [upd_ne (np p hp)]; exact n, ne, nf, dd⟩
  · by_cases hb : b = a
    · subst hb
      rw [upd_same] at e
      cases e
      exact xcO_ok ho hz hv
    · rw [upd_ne hb] at e
      exact (I.hok b u e).stay (fun c v _ q => q) (fun c q => by rw [upd_ne (neS c _ q)]; exact q) fun c xs q => by rw [upd_ne (neS c _ q)]; exact q
/-- what the clause wishes of an exception of the body: the suite, and behind it the exception is known at its place -/
def wKeep (K : PySem.W.Frag) (c : Value) (i : Nat) (ts : Addr → Value → Option Addr → TS) (Wout : WX) (D : Ends) : WX := fun cls d σ H =>
  ∃ b, PySem.W.exmOne K cls c = some b ∧ (b = true → ∀ a, H a = none → ts a cls d { nx := fun σ' H' => H' a = none ∧ D.nx (σ'.set i none) (upd H' a (XcO cls d a)), rt := fun _ _ => False } (σ.set i (some (.ref a))) H) ∧
    (b = false → Wout cls d σ H)
end
section
variable {X : Cx} {x n : Str} {c : Value} {i : Nat} {body suite : List Stmt} {b₀ : Stmt} {np pos pos' : Pos} {tb : WX → TS} {ts : Addr → Value → Option Addr → TS} {Wout : WX}
theorem ps_try_keep (hs : X.stack = X.env :: X.outer) (hf : X.env.frame = some X.env.locals) (hN : X.N.Nodup) (hi : X.N[i]? = some n) (hln : X.env.kindOf n = some .local) (hc : Names X x c) (tk : Takes X Wout) (hex : X.ex = [])
    (hb : ∀ (W : WX) (pn : List (Addr × Obj)) (xe : Value → Shared → Prop), Takes (X.tr pn xe) W → PassesOwn (model X.prog X.w) X.A X.env xe → PSs (X.tr pn xe) body (tb W))
    (hsu : ∀ (a : Addr) (oe : Obj) (cls : Value) (d : Option Addr) (pn : List (Addr × Obj)), Zc cls d oe → (∃ vs, oe.data = .fields vs) → PSs (X.suite a ((a, oe) :: pn)) (b₀ :: suite) (ts a cls d)) :
    PS X (.Try body [.ExceptHandler (some (.Name x np)) (some n) (b₀ :: suite) pos'] [] [] pos) (fun D σ H => tb (wKeep X.K c i ts Wout D) D σ H) := by
  refine ⟨fun pins s σ H D I h => ?_⟩
  have ok := I.ok
  have hfr : X.A.frames = some (X.env :: X.outer) := by rw [ok.frames, hs]
  have hloc : Loc X.env.scope n := .inl hln
  refine wpAny_Try_except ?_
  refine wpAny_mono ((hb (wKeep X.K c i ts Wout D) (X.pn ++ pins) (fun e s₁ => wpAny (model X.prog X.w) X.A (noteFrame e X.env) (fun _ s₂ => wpAny (model X.prog X.w) X.A (setFlight e none) (fun _ s₃ =>
    wpAny (model X.prog X.w) X.A (handleBy e X.env [.ExceptHandler (some (.Name x np)) (some n) (b₀ :: suite) pos']) (SP X pins D) X.xe s₃) X.xe s₂) X.xe s₁) (fun u s' xx => ?_) PassesOwn.looking).run [] s σ H D (I.toTry _) h) (fun f s1 hsp => ?_) (fun e s1 he => he)
  · obtain ⟨a, B, sI, pins', σ', H', cls, d, rfl, J', nb, up, sky, na, os, ag, b, hb1, hyes, hno⟩ := xx
    have J : Inv X pins σ' H' sI := J'.ofTry ok
    have sky' : Sky B (X.env :: X.outer) a (Zc cls d) X.env.locals s'.heap := by rw [← hs]; exact sky
    have nB : B.get? a = none := by
      rcases sky' with z | z | z
      · exact z.2.1
      · exact z.2.1
      · exact z.2.1
    show wpAny (model X.prog X.w) X.A (noteFrame (.ref a) X.env) _ _ _
    refine Sky.land Zc.steady hfr hf sky' fun h3 fl3 up3 => ?_
    have J3 : Inv X pins σ' H' { s' with heap := h3 } := J.landed nb fl3.1 (up.trans up3) os ag
    obtain ⟨oe3, vs3, he3, hz3, hd3⟩ := fl3.there
    have notFr : ∀ {h : Heap} {o : Obj} {vs : Array Value}, h.FunFrames B (X.env :: X.outer) → h.get? a = some o → o.data = .fields vs → a ∉ frs (X.env :: X.outer) := fun {h o vs} ff e dd hm => by
      obtain ⟨_, o', e', hnf⟩ := ff.mem hm
      rw [e] at e'; cases e'
      exact hnf _ dd
    have nfr := notFr fl3.2.2.1 he3 hd3
    have nL : a ≠ X.env.locals := fun z => nfr (List.mem_filterMap.mpr ⟨X.env, List.mem_cons_self, by rw [hf, z]⟩)
    have nF : a ∉ X.fs := fun hm => by
      obtain ⟨e, he, q⟩ := List.mem_filterMap.mp hm
      exact nfr (List.mem_filterMap.mpr ⟨e, List.mem_cons_of_mem _ he, q⟩)
    have nI : sI.heap.get? a = none := by
      cases e : sI.heap.get? a with
      | none => rfl
      | some o =>
        have z := nb a o e (by rw [hs]; exact nfr)
        rw [nB] at z
        cases z
    have n0 : X.s_0.heap.get? a = none := by
      cases e : X.s_0.heap.get? a with
      | none => rfl
      | some o =>
        obtain ⟨o', z⟩ := J.base.there a o e (by rw [hex]; exact fun z => nomatch z)
        rw [nI] at z
        cases z
    have np' : ∀ p ∈ X.pn ++ pins, p.1 ≠ a := fun p hp z => by
      have q := (J.pin p hp).1
      rw [z, nI] at q
      cases q
    have S3 := J3.suite he3 hd3 na nL nF
    refine wpAny_handleBy_cons (codeAny_handlers_test ?_) (by intro q; cases q)
    have LT : PySem.W.Looks (model X.prog X.w) h3 (typeOf (.ref a)) cls := fun A Q E s k q => wpAny_typeOf_ref (k _ _ he3) (by rw [hz3.1]; exact q)
    have LM := PySem.W.exm_one (M := model X.prog X.w) (J3.kIn) LT hb1
    have test : ∀ {Q : Value → Shared → Prop} {E : Value → Shared → Prop}, Q c { s' with heap := h3 } → wpAny (model X.prog X.w) (X.A.mark (some (.ref a))) (eval (.Name x np) X.env) Q E { s' with heap := h3 } := fun {Q E} q => by
      obtain ⟨hg, hdbg, hm | ⟨hm, hv, hnn⟩⟩ := hc
      · exact ld_glob (X := X.suite a ((a, oe3) :: (X.pn ++ pins))) S3 hg hm q hdbg
      · exact ld_blt (X := X.suite a ((a, oe3) :: (X.pn ++ pins))) S3 hg hm hv q hnn hdbg
    refine test (LM.here ?_)
    cases b with
    | true =>
      refine codeAny_handlers_suite_as ?_
      refine HandSPX.lands_againZ fl3 fun h4 fl4 up4 => ?_
      have J4 : Inv X pins σ' H' { s' with heap := h4 } := J.landed nb fl4.1 ((up.trans up3).trans up4) os ag
      obtain ⟨oe4, vs4, he4, hz4, hd4⟩ := fl4.there
      have S4 := J4.suite he4 hd4 na nL nF
      refine store_ok (X := X.suite a ((a, oe4) :: (X.pn ++ pins))) (v := .ref a) S4 hN hi hloc rfl (fun s5 S5 => ?_) (.inr hln)
      refine wpAny_mono ((hsu a oe4 cls d (X.pn ++ pins) hz4 ⟨_, hd4⟩).run [] s5 _ H' _ S5 (hyes rfl a na)) (fun f s6 hsp => ?_) (fun _ _ z => False.elim z)
      cases f with
      | next =>
        obtain ⟨σ6, H6, S6, n6, q6⟩ := hsp
        refine gone_ok (X := X.suite a ((a, oe4) :: (X.pn ++ pins))) S6 hN hi hln fun s7 S7 => ?_
        have g7 : s7.heap.get? a = some oe4 := (S7.pin (a, oe4) (List.mem_append_left _ List.mem_cons_self)).1
        exact ⟨_, _, track (S7.unsuite ok) g7 hz4 ⟨_, hd4⟩ n6 nL n0 np', q6⟩
      | brk =>
        obtain ⟨σ6, H6, S6, q6⟩ := hsp
        exact False.elim q6
      | cont =>
        obtain ⟨σ6, H6, S6, q6⟩ := hsp
        exact False.elim q6
      | ret u =>
        obtain ⟨v6, σ6, H6, S6, r6, q6⟩ := hsp
        exact False.elim q6
    | false =>
      show wpAny _ X.A (handleBy (.ref a) X.env []) _ _ _
      refine wpAny_handleBy_nil ?_
      obtain ⟨k1, k2, k3, oe, vs, T, oT, ts', he, hz, hd, h1, hr⟩ := id fl3
      unfold PySem.passOn
      refine wpAny_bind (wpAny_field he hd h1 ?_)
      rw [if_neg (show ¬ ((Value.ref T == Value.none) = true) from by simp)]
      have fin : wpAny (model X.prog X.w) X.A (setFlight (.ref a) X.env.frame) (fun _ s4 => wpAny (model X.prog X.w) X.A (throw (.ref a) : Sem Flow) (SP X pins D) X.xe s4) X.xe { s' with heap := h3 } := by
        rw [hf]
        refine HandSPX.setFlight_upZ fl3 fun h4 hh4 up4 => wpAny_throw (tk _ _ ?_)
        exact ⟨a, B, sI, pins, σ', H', cls, d, rfl, J, nb, (up.trans up3).trans up4, .inr (.inr (by rw [hs]; exact hh4)), na, os, ag, hno rfl⟩
      first
        | exact wpAny_bind (wpAny_pure (wpAny_bind fin))
        | exact wpAny_bind fin
  · cases f with
    | next =>
      obtain ⟨σ', H', J', q⟩ := hsp
      exact wpAny_execs_nil ⟨σ', H', J'.ofTry ok, q⟩
    | brk =>
      obtain ⟨σ', H', J', q⟩ := hsp
      exact ⟨σ', H', J'.ofTry ok, q⟩
    | cont =>
      obtain ⟨σ', H', J', q⟩ := hsp
      exact ⟨σ', H', J'.ofTry ok, q⟩
    | ret u =>
      obtain ⟨v, σ', H', J', r, q⟩ := hsp
      exact ⟨v, σ', H', J'.ofTry ok, r, q⟩
end
/-- what a class must say, so that isinstance may ask its kept exceptions, and their fields be read -/
structure XcC (K : PySem.W.Frag) (D : Addr) : Prop where
  hcl : (PySem.W.clsIn K D).isSome = true
  ga : PySem.W.findIn K (.ref D) "__getattribute__" = some (some (.builtin "BaseException.__getattribute__"))
  gg : PySem.W.findIn K (.ref D) "__getattr__" = some none
  exC : PySem.W.subIn K (.ref D) (.type "BaseException") = some true
  hdC : PySem.W.hasDictIn K D = true
  ha : PySem.W.findIn K (.ref D) "__class__" = some (some (.builtin "object.__class__"))
  hn : PySem.W.specialIn K (.builtin "object.__class__") "__get__" = some (some (.builtin "getset_descriptor.__get__"))
  ht : PySem.W.takesIn K (.builtin "object.__class__") = some true
  hm : PySem.W.mroIn K D (.type "object") = some true
section
variable {X : Cx}
theorem xc_inst {pins : List (Addr × Obj)} {σ : L2.St} {H : Hp} {s : Shared} {a D dd : Addr} {fs : List (Str × V)} (I : Inv X pins σ H s) (ha : H a = some (XcO (.ref D) (some dd) a)) (hd : H dd = some (.xd fs)) :
    ∃ oe od, PySem.W.InstAt s.heap a oe D (some od) ∧ (∃ mA : Str → Option Value, (∀ name, PySem.W.lookIn name od = some (mA name)) ∧ ∀ f, RelO (fs.lookup f) (mA f)) := by
  obtain ⟨⟨oe, e, hz, vs, hvs⟩, _, _⟩ := (show ObjOk X.prog X.w H s.heap a (XcO (.ref D) (some dd) a) from I.hok a _ ha)
  have hx : ObjOk X.prog X.w H s.heap dd (.xd fs) := I.hok dd _ hd
  obtain ⟨mA, hns, hr⟩ := hx
  obtain ⟨od, ho, hl⟩ := lookIn_ns hns
  exact ⟨oe, od, ⟨e, hz.1, by unfold PySem.W.notCls; rw [hvs] <;> rfl, by rw [hz.2]; exact ho⟩, mA, hl, hr⟩
/-- isinstance(e, c), e a kept exception -/
def rIsX (K : PySem.W.Frag) : List V → Hp → VK → Prop := fun xs H Q => ∃ (a D dd : Addr) (fs : List (Str × V)) (c : V) (cv : Value) (b : Bool), xs = [.ref a, c] ∧ H a = some (XcO (.ref D) (some dd) a) ∧ H dd = some (.xd fs) ∧ XcC K D ∧ ClsV c cv ∧ PySem.W.kitOne K (.ref D) cv = some b ∧ Q (.bl b) H
theorem call_isX : CallR X (.builtin "isinstance") (rIsX X.K) := by
  intro pins s σ H xs us Q I r h
  obtain ⟨a, D, dd, fs, c, cv, b, rfl, ha, hd, T, k, e, q⟩ := h
  obtain ⟨u1, u2, rfl, r1, r2⟩ := vals2 r
  have e2 := k.eq r2
  subst e2
  cases (show u1 = Value.ref a from r1)
  obtain ⟨oe, od, J, _⟩ := xc_inst I ha hd
  exact PySem.W.kia_one (PySem.W.kitx_exc T.hcl T.ga T.gg T.exC T.ha T.hn T.ht T.hm) I.kIn J e (fun z => nomatch z) fun tk => ⟨.bl b, H, I.tok tk, rfl, q⟩
/-- e.f, e a kept exception -/
def tXcF (K : PySem.W.Frag) (te : TE) (f : Str) : TE := fun σ H Q => te σ H fun x H1 => ∃ (a D dd : Addr) (fs : List (Str × V)) (v : V), x = .ref a ∧ H1 a = some (XcO (.ref D) (some dd) a) ∧ H1 dd = some (.xd fs) ∧ XcC K D ∧
  PySem.W.findIn K (.ref D) f = some none ∧ fs.lookup f = some v ∧ Q v H1
theorem pe_xcf {e : Expr} {te : TE} {pos : Pos} {n : Str} (he : PE X e te) (hb : attributeBase e n X.env (eval e X.env) = eval e X.env := by rfl) : PE X (.Attribute e n pos) (tXcF X.K te n) := by
  refine ⟨fun pins s σ H Q I h => ?_⟩
  refine attr_of hb (thn (he.run pins s σ H _ I h) fun u s1 hh => ?_)
  obtain ⟨x, H1, I1, rx, a, D, dd, fs, v, ex, ha, hd, T, hno, l, q⟩ := hh
  subst ex
  obtain rfl : u = Value.ref a := rx
  obtain ⟨oe, od, J, mA, hl, hr⟩ := xc_inst I1 ha hd
  obtain ⟨u, hu, ru⟩ := RelO.some_of (v := v) (o := mA n) (by rw [← l]; exact hr n)
  exact HandSPX.exc_get I1.kIn J T.ga T.gg T.exC (PySem.W.findObj_own T.hdC hno rfl (by rw [hl, hu])) (handed_of ru) ⟨v, H1, I1.tok _, ru, q⟩
end
end DL

set_option Elab.async false
set_option linter.all false
set_option maxRecDepth 100000
set_option maxHeartbeats 4000000
/-! a lambda with one parameter that has a whole number for its default, handed to a def that calls it without arguments -/
namespace DL
open PySem PySem.Spec PySem.Calls PyProof.Rows L2 LamX
open PySem.W (tabObj)
abbrev fnD (qual : Str) (params : Arguments) (body : Expr) (scope : Scope) (cl : List (Str × Addr)) (dV pm cdv ct : Value) : FuncData :=
  { name := "<lambda>", qualname := qual, params, body := .expr body, scope, globals := mainGlobals, closure := cl, defaults := dV, kwdefaults := .none, doc := .none, pyModule := pm, annotations := none, code := cdv, closureTuple := ct, builtins := builtinsNs }
abbrev objD (qual : Str) (params : Arguments) (body : Expr) (scope : Scope) (cl : List (Str × Addr)) (dV pm : Value) (c' : Addr) (ctv : Value) : Obj :=
  { cls := .type "function", data := .func (fnD qual params body scope cl dV pm (.ref c') ctv) }
abbrev tupD (i : Int) (t : Tok) : Obj := { cls := .type "tuple", data := .seq #[.int i t] }
section
variable {M : Model} {A : Around} {E : Value → Shared → Prop} {s : Shared} {qual : Str} {params : Arguments} {body : Expr} {scope : Scope} {env : Env} {c P : Addr} {ps : Array Value} {pos : Pos} {firstLine : Nat} {mg : Str → Option Value}
  {clos : List (Str × Addr)} {Q : Value → Shared → Prop} {dV : Value}
theorem tailD (hcl : closureFor scope env = pure clos) (hge0 : env.globals = mainGlobals) (hg : s.heap.Ns mainGlobals mg) (hcode : env.code = .ref c) (C : PySem.W.CodeHd s.heap c P) (hP : s.heap.get? P = some (tabObj ps)) (ht : TriplesOk ps.toList)
    (hnf : codeAmong pos ps.toList = none) (hgP : mainGlobals ≠ P) (hb : s.heap.BuiltinsAt mg P)
    (h : ∀ c' ctv h' tk, Heap.ExtBut P s.heap h' → s.heap.objs.size ≤ c' → c' < h'.objs.size → h'.CodeRec (.ref c') qual → h'.get? P = some (tabObj (ps ++ #[rawInt pos.line, rawInt pos.col, .ref c'])) →
      Q (.ref h'.objs.size) { s with heap := h'.push (objD qual params body scope clos dV ((mg "__name__").getD .none) c' ctv), toks := tk }) :
    wpAny M A (makeTail "<lambda>" qual params (.expr body) scope env dV .none none pos firstLine) Q E s := by
  obtain ⟨bm, ob, hbm, hne0, _, hneP, hbo, hcls, hdict, hdata⟩ := hb
  unfold makeTail
  rw [hcl, hge0]
  refine wpAny_bind (wpAny_pure ?_)
  cases clos with
  | nil =>
    simp only [List.isEmpty_nil, if_true]
    refine wpAny_bind (wpAny_pure ?_)
    refine wpAny_bind (wpAny_functionCodeX hcode (C.code hP ht) (C.tab hP) hnf fun c' h' tk hx hge hlt _ hrec htb _ => ?_)
    have hg' := hg.extBut hx hgP
    refine wpAny_bind (wpAny_builtinsFor hg' hbm hne0 (hx _ _ hneP hbo) hcls hdict hdata ?_)
    refine wpAny_bind (wpAny_nsGet hg' ?_)
    exact wpAny_bind (wpAny_pure (wpAny_newObj_type (h c' .none h' tk hx hge hlt hrec htb.2) (by size_fits)))
  | cons q r =>
    simp only [List.isEmpty_cons, Bool.false_eq_true, if_false]
    refine wpAny_bind (wpAny_newTextTuple ?_)
    refine wpAny_bind (wpAny_functionCodeX hcode ((C.keeps fun b o e => Heap.get?_push_of_some _ e).code (Heap.get?_push_of_some _ hP) ht) ((C.keeps fun b o e => Heap.get?_push_of_some _ e).tab (Heap.get?_push_of_some _ hP)) hnf fun c' h' tk hx hge hlt _ hrec htb _ => ?_)
    have hg' := (hg.push _).extBut hx hgP
    have hx' : Heap.ExtBut P s.heap h' := fun b o hb' e => hx b o hb' (Heap.get?_push_of_some _ e)
    have hge' : s.heap.objs.size ≤ c' := Nat.le_trans (by rw [Heap.size_push]; omega) hge
    refine wpAny_bind (wpAny_builtinsFor hg' hbm hne0 (hx' _ _ hneP hbo) hcls hdict hdata ?_)
    refine wpAny_bind (wpAny_nsGet hg' ?_)
    exact wpAny_bind (wpAny_pure (wpAny_newObj_type (h c' _ h' tk hx' hge' hlt hrec htb.2) (by size_fits)))
theorem tailHitD {cv : Value} (hcl : closureFor scope env = pure clos) (hge0 : env.globals = mainGlobals) (hg : s.heap.Ns mainGlobals mg) (hcode : env.code = .ref c) (C : PySem.W.CodeHd s.heap c P) (hP : s.heap.get? P = some (tabObj ps)) (ht : TriplesOk ps.toList)
    (hf : codeAmong pos ps.toList = some cv) (hb : s.heap.BuiltinsAt mg P)
    (h : ∀ (ctv : Value) (h' : Heap) (tk : Tok), (∀ b o, s.heap.get? b = some o → h'.get? b = some o) → s.heap.objs.size ≤ h'.objs.size →
      Q (.ref h'.objs.size) { s with heap := h'.push { cls := .type "function", data := .func (fnD qual params body scope clos dV ((mg "__name__").getD .none) cv ctv) }, toks := tk }) :
    wpAny M A (makeTail "<lambda>" qual params (.expr body) scope env dV .none none pos firstLine) Q E s := by
  obtain ⟨bm, ob, hbm, hne0, _, hneP, hbo, hcls, hdict, hdata⟩ := hb
  unfold makeTail
  rw [hcl, hge0]
  refine wpAny_bind (wpAny_pure ?_)
  cases clos with
  | nil =>
    simp only [List.isEmpty_nil, if_true]
    refine wpAny_bind (wpAny_pure ?_)
    refine wpAny_bind (wpAny_functionCode_hit hcode (C.code hP ht) hf ?_)
    refine wpAny_bind (wpAny_builtinsFor hg hbm hne0 hbo hcls hdict hdata ?_)
    refine wpAny_bind (wpAny_nsGet hg ?_)
    exact wpAny_bind (wpAny_pure (wpAny_newObj_type (h .none s.heap s.toks (fun _ _ e => e) (Nat.le_refl _)) (by size_fits)))
  | cons q r =>
    simp only [List.isEmpty_cons, Bool.false_eq_true, if_false]
    refine wpAny_bind (wpAny_newTextTuple ?_)
    refine wpAny_bind (wpAny_functionCode_hit hcode ((C.keeps fun b o e => Heap.get?_push_of_some _ e).code (Heap.get?_push_of_some _ hP) ht) hf ?_)
    refine wpAny_bind (wpAny_builtinsFor (hg.push _) hbm hne0 (Heap.get?_push_of_some _ hbo) hcls hdict hdata ?_)
    refine wpAny_bind (wpAny_nsGet (hg.push _) ?_)
    have hsz : ∀ oT : Obj, s.heap.objs.size ≤ (s.heap.push oT).objs.size := fun oT => by rw [Heap.size_push]; omega
    exact wpAny_bind (wpAny_pure (wpAny_newObj_type (h _ _ s.toks (fun b o e => Heap.get?_push_of_some _ e) (hsz _)) (by size_fits)))
/-- lambda k=i: the default first, its tuple, then as a lambda without one -/
theorem evalD {i : Int} {j : Nat} {ip : Pos} (hdef : defaultsOf params env = ([eval (.Constant (.int i) j ip) env], [])) (hkw : params.kwonlyargs = [])
    (h : ∀ tk, wpAny M A (makeTail "<lambda>" (env.qual ++ "<lambda>") params (.expr body) scope env (.ref s.heap.objs.size) .none none pos pos.line) Q E { s with heap := s.heap.push (tupD i tk), toks := s.toks + 1 }) :
    wpAny M A (eval (.Lambda params body scope pos) env) Q E s := by
  rw [PySem.arm_eval_Lambda, hdef]
  show wpAny M A (do let dv ← evalAll [eval (.Constant (.int i) j ip) env]; let kdv ← holding dv (evalAllOpt []); makeFunction "<lambda>" (env.qual ++ "<lambda>") params (.expr body) scope env dv kdv [] pos pos.line) Q E s
  refine wpAny_bind ?_
  show wpAny M A (do let v ← eval (.Constant (.int i) j ip) env; return v :: (← holding [v] (evalAll []))) _ E s
  refine wpAny_bind (wpAny_Constant_int ?_)
  refine wpAny_bind (wpAny_holding (wpAny_pure ?_))
  refine wpAny_pure ?_
  refine wpAny_bind (wpAny_holding (wpAny_pure ?_))
  rw [makeFunction_eq, hkw]
  simp only [List.zip_nil_left, List.filterMap_nil, List.isEmpty_nil, List.isEmpty_cons, if_true, pure_bind, Bool.false_eq_true, if_false]
  exact wpAny_bind (wpAny_newTextTuple (h _))
end
section
variable {X : Cx} {pins : List (Addr × Obj)} {σ : L2.St} {H : Hp} {s : Shared}
theorem makeD {T : List (Addr × Str)} {c P : Addr} {params : Arguments} {body : Expr} {scope : Scope} {pos : Pos} {i : Int} {j : Nat} {ip : Pos} {E : Value → Shared → Prop} {Q : Value → Shared → Prop} (I : Inv X pins σ H s) (TB : TabB X.base X.mg c P) (hcode : X.env.code = .ref c)
    (hm : (P, X.env.qual ++ "<lambda>") ∈ T) (hu : ∀ p ∈ T, p.1 = P → p.2 = X.env.qual ++ "<lambda>") (hT : Tabs T H) (hdef : defaultsOf params X.env = ([eval (.Constant (.int i) j ip) X.env], [])) (hkw : params.kwonlyargs = []) (hfree : ∀ y ∈ scope.names, y.2 = .free → ∃ c, X.env.cells.lookup y.1 = some c)
    (h : ∀ (f c' tp : Addr) (tk : Tok) (pm ctv : Value) (H1 : Hp) (s' : Shared), Inv X pins σ H1 s' → ExtN H H1 → Tabs T H1 →
      s'.heap.get? f = some (objD (X.env.qual ++ "<lambda>") params body scope (cloFrom X.env.cells scope.names []) (.ref tp) pm c' ctv) → H1 f = none → f ∉ frs X.stack →
      s'.heap.get? tp = some (tupD i tk) → H1 tp = none → tp ∉ frs X.stack → H1 c' = some (CodeO c' (X.env.qual ++ "<lambda>")) → Q (.ref f) s') :
    wpAny (model X.prog X.w) X.A (eval (.Lambda params body scope pos) X.env) Q E s := by
  obtain ⟨ps, hP, ht, ha⟩ := hT _ hm
  refine evalD hdef hkw fun tk0 => ?_
  have I0 : Inv X pins σ H { s with heap := s.heap.push (tupD i tk0), toks := s.toks + 1 } := I.kept (t' := s.toks + 1) fun b o e => Heap.get?_push_of_some _ e
  have hT0 : (s.heap.push (tupD i tk0)).get? s.heap.objs.size = some (tupD i tk0) := Heap.get?_push_size _ rfl
  have hs0 : s.heap.objs.size < (s.heap.push (tupD i tk0)).objs.size := by rw [Heap.size_push]; omega
  have nT0 : H s.heap.objs.size = none := I.hok.fresh (Nat.le_refl _)
  have nofr0 : ∀ f, s.heap.objs.size ≤ f → f ∉ frs X.stack := fun f hf z => by
    rcases List.mem_cons.mp (I.stkSub _ z) with e | e
    · have h1 := I.lt
      rw [← e] at h1
      exact Nat.lt_irrefl _ (Nat.lt_of_lt_of_le h1 hf)
    · exact I.nofs hf e
  have bP : (s.heap.push (tupD i tk0)).BuiltinsAt X.mg P := TB.bm.keeps I0.bk
  have hP' : (s.heap.push (tupD i tk0)).get? P = some { cls := .none, data := .fields ps } := I0.hok P _ hP
  have nofr : ∀ f, (s.heap.push (tupD i tk0)).objs.size ≤ f → f ∉ frs X.stack := fun f hf => nofr0 f (Nat.le_trans (Nat.le_of_lt hs0) hf)
  cases hc : codeAmong pos ps.toList with
  | none =>
    refine tailD (s := { s with heap := s.heap.push (tupD i tk0), toks := s.toks + 1 }) (mg := X.mg) (c := c) (P := P) (ps := ps) (closure_ok hfree) I.ok.glob (I.mod.glob.keeps I0.bk) hcode (TB.code.keeps I0.bk) hP' ht hc TB.gP bP fun c' ctv h' tk hx hge hlt hrec htb => ?_
    obtain ⟨c2, oc, vs, t, e2, hoc, hd, hv⟩ := hrec
    cases e2
    have hsz : (s.heap.push (tupD i tk0)).objs.size ≤ h'.objs.size := Nat.le_trans hge (Nat.le_of_lt hlt)
    have nC : H c' = none := I0.hok.fresh hge
    have nTP : s.heap.objs.size ≠ P := Nat.ne_of_gt (Heap.lt_size (I.hok P _ hP : s.heap.get? P = _))
    have I1 := inv_table (t' := tk) (more := #[rawInt pos.line, rawInt pos.col, .ref c']) (h' := h'.push (objD (X.env.qual ++ "<lambda>") params body scope (cloFrom X.env.cells scope.names []) (.ref s.heap.objs.size) ((X.mg "__name__").getD .none) c' ctv)) I0 hP
      (fun b o hb e => Heap.get?_push_of_some _ (hx b o hb e)) (Heap.get?_push_of_some _ htb) hge ⟨oc, vs, t, Heap.get?_push_of_some _ hoc, hd, hv⟩
    have hE : ExtN H (upd (upd H P (.tbl (ps ++ #[rawInt pos.line, rawInt pos.col, .ref c']))) c' (CodeO c' (X.env.qual ++ "<lambda>"))) := fun b o e n => by
      rw [upd_ne (ne_of_none e nC), upd_ne (fun z => n ps (Option.some.inj (e.symm.trans (by rw [z]; exact hP))))]
      exact e
    have eL : (ps ++ #[rawInt pos.line, rawInt pos.col, .ref c']).toList = ps.toList ++ [rawInt pos.line, rawInt pos.col, .ref c'] := by simp
    refine h h'.objs.size c' s.heap.objs.size tk0 ((X.mg "__name__").getD .none) ctv _ _ I1 hE (fun p hp => ?_) (Heap.get?_push_size _ rfl) ?_ (nofr _ hsz) (Heap.get?_push_of_some _ (hx _ _ nTP hT0)) ?_ (nofr0 _ (Nat.le_refl _)) upd_same
    · by_cases hb : p.1 = P
      · rw [hu p hp hb, hb]
        refine ⟨_, by rw [upd_ne (ne_of_none hP nC), upd_same], by rw [eL]; exact PySem.TriplesOk_snoc _ _ _ _ ht, fun p' cv hcv => ?_⟩
        rw [eL] at hcv
        rcases among_app _ ht hcv with z | z
        · obtain ⟨c0, e1, e2⟩ := ha p' cv z
          exact ⟨c0, e1, hE _ _ e2 codeO_ne⟩
        · exact ⟨c', z, upd_same⟩
      · obtain ⟨ps', a1, a2, a3⟩ := hT p hp
        refine ⟨ps', by rw [upd_ne (ne_of_none a1 nC), upd_ne hb]; exact a1, a2, fun p' cv hcv => ?_⟩
        obtain ⟨c0, e1, e2⟩ := a3 p' cv hcv
        exact ⟨c0, e1, hE _ _ e2 codeO_ne⟩
    · have n1 : h'.objs.size ≠ c' := Nat.ne_of_gt hlt
      have n2 : h'.objs.size ≠ P := Nat.ne_of_gt (Nat.lt_of_lt_of_le (Heap.lt_size hP') hsz)
      rw [upd_ne n1, upd_ne n2]
      exact I0.hok.fresh hsz
    · have n1 : s.heap.objs.size ≠ c' := Nat.ne_of_lt (Nat.lt_of_lt_of_le hs0 hge)
      rw [upd_ne n1, upd_ne nTP]
      exact nT0
  | some cv =>
    obtain ⟨c', e, hco⟩ := ha pos cv hc
    subst e
    refine tailHitD (s := { s with heap := s.heap.push (tupD i tk0), toks := s.toks + 1 }) (mg := X.mg) (c := c) (P := P) (ps := ps) (closure_ok hfree) I.ok.glob (I.mod.glob.keeps I0.bk) hcode (TB.code.keeps I0.bk) hP' ht hc bP fun ctv h' tk hx hsz => ?_
    have I1 : Inv X pins σ H { s with heap := h'.push (objD (X.env.qual ++ "<lambda>") params body scope (cloFrom X.env.cells scope.names []) (.ref s.heap.objs.size) ((X.mg "__name__").getD .none) c' ctv), toks := tk } := I0.kept fun b o e => Heap.get?_push_of_some _ (hx b o e)
    exact h h'.objs.size c' s.heap.objs.size tk0 ((X.mg "__name__").getD .none) ctv H _ I1 (ExtN.refl H) hT (Heap.get?_push_size _ rfl) (I0.hok.fresh hsz) (nofr _ hsz) (Heap.get?_push_of_some _ (hx _ _ hT0)) nT0 (nofr0 _ (Nat.le_refl _)) hco
end
/-- one parameter, no other name of its own: captured ones and globals -/
structure LamSD (sc scope : Scope) (p : Str) : Prop where
  kind : scope.kind = .function
  co : scope.isCoroutine = false
  gen : scope.isGenerator = false
  own : ∀ y ∈ scope.names, (y.2 = .local → y.1 = p) ∧ y.2 ≠ .cell
  par : scope.names.lookup p = some .local
  free : ∀ y ∈ scope.names, y.2 = .free → sc.names.lookup y.1 = some .cell ∨ sc.names.lookup y.1 = some .free
def lamSDB (sc scope : Scope) (p : Str) : Bool :=
  decide (scope.kind = .function) && !scope.isCoroutine && !scope.isGenerator && decide (scope.names.lookup p = some .local) && scope.names.all fun y => (!decide (y.2 = .local) || decide (y.1 = p)) && !decide (y.2 = .cell) && (!decide (y.2 = .free) || decide (sc.names.lookup y.1 = some .cell) || decide (sc.names.lookup y.1 = some .free))
theorem lamSD_by {sc scope : Scope} {p : Str} (h : lamSDB sc scope p = true) : LamSD sc scope p := by
  unfold lamSDB at h
  simp only [Bool.and_eq_true, Bool.or_eq_true, Bool.not_eq_true', decide_eq_true_eq, decide_eq_false_iff_not, List.all_eq_true] at h
  obtain ⟨⟨⟨⟨h1, h2⟩, h3⟩, h5⟩, h4⟩ := h
  refine ⟨h1, h2, h3, fun y hy => ⟨fun e => ((h4 y hy).1.1).elim (fun z => absurd e z) id, (h4 y hy).1.2⟩, h5, fun y hy e => ?_⟩
  rcases (h4 y hy).2 with (z | z) | z
  · exact absurd e z
  · exact .inl z
  · exact .inr z
theorem LamSD.has {X : Cx} {scope : Scope} {p : Str} (L : LamSD X.env.scope scope p) (ok : X.Ok) : ∀ y ∈ scope.names, y.2 = .free → ∃ c, X.env.cells.lookup y.1 = some c := fun y hy e => by
  rcases L.free y hy e with k | k
  · exact ok.has _ (.inl k)
  · exact ok.has _ (.inr k)
section
variable {X : Cx} {pins : List (Addr × Obj)} {σ : L2.St} {H HZ : Hp} {s s1 : Shared}
theorem startD {A : Around} {outer : List Env} {E : XK} {scope : Scope} {p : Str} {f c' : Addr} {h₁ : Heap} {tk : Nat} {bs : List (Str × Value)} (I : Inv X pins σ H s) (L : LamSD X.env.scope scope p) (hp : p ∉ X.N) (e0 : Env0 X.prog X.w X.K X.mg X.base A outer s1 HZ) (hd : A.handled = none)
    (un : Un (frs X.stack) [] H HZ s.heap s1.heap) (hns : h₁.Ns s1.heap.objs.size fun y => bs.reverse.lookup y) (kp : ∀ b o, s1.heap.get? b = some o → h₁.get? b = some o) :
    Inv (lamCx X A outer s1 HZ E scope f c') [] σ HZ { s1 with heap := h₁, toks := tk } := by
  have hfree := L.has I.ok
  have cm : ∀ {y c}, (cloFrom X.env.cells scope.names []).lookup y = some c → X.env.cells.lookup y = some c := fun {y c} e => by
    rcases cloFrom_mem (PySem.mem_of_lookup e) with hm | ⟨h1, h2⟩
    · cases hm
    · obtain ⟨c1, hc⟩ := hfree _ h1 rfl
      have hc : X.env.cells.lookup y = some c1 := hc
      have e2 : c = c1 := by
        rw [h2, hc] <;> rfl
      rw [e2]
      exact hc
  have look : ∀ {y}, scope.names.lookup y = some .free → ∃ c, (cloFrom X.env.cells scope.names []).lookup y = some c := fun {y} hl => by
    have hy : (y, NameKind.free) ∈ scope.names := PySem.mem_of_lookup hl
    exact mem_lookup (cloFrom_has (cells := X.env.cells) (acc := []) hy)
  have cellK : ∀ {c : Addr} {v : Option Value}, H c = none → s.heap.IsCell c v → h₁.IsCell c v := fun {c v} n ⟨o, ho, hd⟩ => by
    obtain ⟨sl, q⟩ := un.any ho n (by simp)
    exact ⟨_, kp _ _ q, hd⟩
  have noA : ∀ b : Addr, b ∉ (lamCx X A outer s1 HZ E scope f c').ex := fun b z => absurd (show b ∈ ([] : List Addr) from z) (by simp)
  refine ⟨⟨e0.mod, L.kind, rfl, rfl, Nat.le_refl _, fun y z c e1 e2 => I.ok.inj y z c (cm e1) (cm e2), fun y hy => ?_, fun y c z _ => ?_, fun _ => hd, Around.frames_deeper e0.frames, .inr ⟨rfl, rfl⟩, fun b z => absurd z (noA b), e0.bs, e0.bsz, fun b _ _ => noA b,
      fun b z => absurd z (noA b), e0.funs, e0.frf⟩,
    rfl, e0.bare, Un.kept kp, ⟨_, hns, fun i y v e1 e2 e3 => ?_⟩, fun y c e => ?_, e0.hok.fresh (Nat.le_refl _), fun y c e => ?_, fun q hq => absurd (show q ∈ ([] : List (Addr × Obj)) ++ [] from hq) (by simp), e0.hok.kept kp, I.len⟩
  · have hy : scope.names.lookup y = some .cell ∨ scope.names.lookup y = some .free := hy
    rcases hy with hy | hy
    · exact absurd rfl (L.own _ (PySem.mem_of_lookup hy)).2
    · exact look hy
  · have z : false = true := z
    cases z
  · have e3 : Vis scope y := e3
    rcases e3 with k | k | k
    · have ey : y = p := (L.own _ (PySem.mem_of_lookup k)).1 rfl
      have e1 : X.N[i]? = some y := e1
      rw [ey] at e1
      exact absurd (List.mem_of_getElem? e1) hp
    · exact absurd rfl (L.own _ (PySem.mem_of_lookup k)).2
    · obtain ⟨m, hn, hl⟩ := I.loc
      have hvis : Vis X.env.scope y := (L.free _ (PySem.mem_of_lookup k) rfl).elim (fun k => .inr (.inl k)) (fun k => .inr (.inr k))
      obtain ⟨w', r, q⟩ := hl i y v e1 e2 hvis
      obtain ⟨c2, h2⟩ := look k
      refine ⟨w', r, .inr ⟨.inr k, c2, h2, ?_⟩⟩
      have c1 := cm h2
      rcases q with ⟨k', _⟩ | ⟨_, c3, e', z⟩
      · have k' : X.env.scope.names.lookup y = some .local := k'
        rcases L.free _ (PySem.mem_of_lookup k) rfl with k2 | k2 <;> rw [show X.env.scope.names.lookup y = _ from k2] at k' <;> cases k'
      · rw [c1] at e'
        cases e'
        exact cellK (I.freeC y _ c1) z
  · obtain ⟨w', z⟩ := I.cell y c (cm e)
    exact ⟨w', cellK (I.freeC y c (cm e)) z⟩
  · obtain ⟨v, o, ho, hd⟩ := I.cell y c (cm e)
    exact un.free c o ho (I.freeC y c (cm e)) (by simp)
/-- x(), in the def that got the lambda -/
theorem actD {CXg : CXT} {Eg : XK} {Ng : List Str} {qg : Str} {sg : Scope} {g f c' tp : Addr} {tk0 : Tok} {iv : Int} {cdg pm ctv : Value} {params : Arguments} {body : Expr} {scope : Scope} {p : Str} {k i : Nat} {a : Str} {pn : List (Addr × Obj)} {xe : Value → Shared → Prop} {W : WX} {E : XK} {tb : TE} {p1 p2 : Pos}
    (I : Inv X pins σ H s) (L : LamSD X.env.scope scope p) (hpN : p ∉ X.N) (hf : s.heap.get? f = some (objD (X.env.qual ++ "<lambda>") params body scope (cloFrom X.env.cells scope.names []) (.ref tp) pm c' ctv)) (hfn : H f = none) (hfr : f ∉ frs X.stack)
    (htp : s.heap.get? tp = some (tupD iv tk0)) (htn : H tp = none) (htr : tp ∉ frs X.stack)
    (hbind : ∀ (v : Value), ∃ k, bindArgs (fnD (X.env.qual ++ "<lambda>") params body scope (cloFrom X.env.cells scope.names []) (.ref tp) pm (.ref c') ctv) ⟨[], []⟩ = seqItems? (.ref tp) >>= k ∧ k (some #[v]) = pure [(p, v)])
    (tk : Takes ((cxOf CXg X.prog X.w X.K X.mg X.base Ng qg sg g cdg X.A X.stack s H Eg).tr pn xe) W) (hW : ∀ cls d σ' H', E cls d H' → W cls d σ' H') (hr : Room (k + 1) (X.A.deeper (envOfC qg sg s.heap.objs.size g cdg)))
    (hbody : ∀ (A : Around) (outer : List Env) (s : Shared) (H : Hp), Room k (A.deeper (lamEnv X scope s.heap.objs.size f c')) → PE (lamCx X A outer s H E scope f c') body tb)
    (hN : Ng[i]? = some a) (hv : Vis sg a) (hd : (a == ("__debug__" : Str)) = false := by decide) (hcd : (a == ("__classdict__" : Str)) = false := by decide) :
    PE ((cxOf CXg X.prog X.w X.K X.mg X.base Ng qg sg g cdg X.A X.stack s H Eg).tr pn xe) (.Call (.Name a p1) [] [] p2)
      (fun σZ HZ Q => σZ[i]? = some (some (.ref f)) ∧ HZ c' = some (CodeO c' (X.env.qual ++ "<lambda>")) ∧ tb σ HZ Q) := by
  refine ⟨fun pinsZ sZ σZ HZ Q IZ h => ?_⟩
  obtain ⟨hs, hc, ht⟩ := h
  refine wpAny_Call_Name_kw (thn ((pe_var (pos := p1) (i := i) hN hv hd hcd).run pinsZ sZ σZ HZ (fun v H1 => v = .ref f ∧ H1 = HZ) IZ ⟨.ref f, hs, rfl, rfl⟩) fun u s1 ⟨v, H1, I1, r1, q1⟩ => ?_)
  obtain ⟨ev, eH⟩ := q1
  subst ev
  rw [eH] at I1
  obtain rfl : u = Value.ref f := r1
  have of1 : s1.heap.get? f = some (objD (X.env.qual ++ "<lambda>") params body scope (cloFrom X.env.cells scope.names []) (.ref tp) pm c' ctv) := I1.base.keep f _ hf hfn hfr (fun z => nomatch (show f ∈ ([] : List Addr) from z))
  have ot1 : s1.heap.get? tp = some (tupD iv tk0) := I1.base.keep tp _ htp htn htr (fun z => nomatch (show tp ∈ ([] : List Addr) from z))
  refine PySem.W.callWith_F0 ⟨_, _, _, _, of1⟩ ?_
  have un : Un (frs X.stack) [] H HZ s.heap s1.heap := I1.base
  obtain ⟨⟨oc, vs, t, hoc, hdc, hvc⟩, _, _⟩ := I1.hok c' _ hc
  have rc : codeAny (model X.prog X.w) (X.A.deeper (envOfC qg sg s.heap.objs.size g cdg)) (.call (.ref f) ⟨[], []⟩) (CR (L2.CX X.prog X.w) (envOfC qg sg s.heap.objs.size g cdg :: X.stack) X.prog X.w HZ s1 Q E) s1 := by
    refine PySem.W.kla_callFunE hr.depth of1 rfl L.co L.gen rfl ⟨c', oc, vs, t, rfl, hoc, hdc, hvc⟩ ?_
    obtain ⟨kk, b1, b2⟩ := hbind (.int iv tk0)
    rw [b1]
    refine wpAny_bind (wpAny_seqItems ot1 rfl ?_)
    rw [b2]
    refine wpAny_pure (wpAny_newFunctionEnv (fun y hy => (L.own y hy).2) (fun y hy => ?_) (fun h₁ hns hsb => ⟨I1.nolimit.fresh _ hsb, ?_⟩) L.kind)
    · have ey : y = (p, Value.int iv tk0) := List.mem_singleton.mp hy
      rw [ey]
      exact L.par
    show codeAny _ _ (.expr body (lamEnv X scope s1.heap.objs.size f c')) _ _
    have kp : ∀ b o, s1.heap.get? b = some o → h₁.get? b = some o := fun b o e => hsb.extBut b o (Nat.ne_of_lt (Heap.lt_size e)) (Heap.get?_push_of_some _ e)
    have J : Inv (lamCx X (X.A.deeper (envOfC qg sg s.heap.objs.size g cdg)) (envOfC qg sg s.heap.objs.size g cdg :: X.stack) s1 HZ E scope f c') [] σ HZ { s1 with heap := h₁, toks := s1.toks + ([(p, Value.int iv tk0)] : List (Str × Value)).length } :=
      startD I L hpN I1.env0 hr.hd un hns kp
    refine PySem.W.kla_codeExpr (wpAny_mono ((hbody _ _ s1 HZ (hr.deeper _)).run [] _ _ HZ Q J ht) (fun v s' hq => ?_) fun e s' hq => hq)
    obtain ⟨w', H', J', rv, q⟩ := hq
    exact ⟨w', H', J'.os, J'.bare, J'.base, J'.hok, rv, q⟩
  have hx : Passes (L2.CX X.prog X.w) ((cxOf CXg X.prog X.w X.K X.mg X.base Ng qg sg g cdg X.A X.stack s H Eg).tr pn xe) E := passes_call tk hW
  refine wpAny_call (codeAny_mono rc fun r s' hq => ?_)
  cases r with
  | error e => exact hx pinsZ σZ HZ s1 e s' I1 hq
  | ok fl =>
    cases fl with
    | ret u => exact I1.after hq
    | next => exact False.elim hq
    | brk => exact False.elim hq
    | cont => exact False.elim hq
end
section
variable {X : Cx}
/-- x(lambda k=i: body) -/
theorem pe_lamcallD {T : List (Addr × Str)} {TT : (XK → Hp → VK → Prop) → Hp → VK → Prop} {x a kp : Str} {g c P : Addr} {k : Nat} {pg : Arguments} {bg : List Stmt} {sg : Scope} {dV kV doc pm cdv ct oc : Value} {an od : Option Addr} {osl : Array (Option Value)} {Ng : List Str}
    {params : Arguments} {body : Expr} {scope : Scope} {t : XK → TE} {p lpos pos : Pos} {iv : Int} {ij : Nat} {ip : Pos} (hg : Gl X x) (hm : X.mg x = some (.ref g)) (hk : PySem.W.keepIn X.K (.ref g) = true)
    (lk : X.K.lookup g = some ⟨oc, od, .func (PySem.W.fnOf x x pg bg sg dV kV doc pm an cdv ct), osl⟩) (hcg : PySem.W.codeIn X.K cdv x = true) (hb : L2.Binds X.K (PySem.W.fnOf x x pg bg sg dV kV doc pm an cdv ct) [a] []) (Sg : FnScope Ng [a] sg) (hNg : Ng[0]? = some a) (hva : Vis sg a)
    (hG : GivesTo X Ng x sg g cdv bg a (X.env.qual ++ "<lambda>") TT)
    (TB : TabB X.base X.mg c P) (hcode : X.env.code = .ref c) (hmT : (P, X.env.qual ++ "<lambda>") ∈ T) (hu : ∀ p ∈ T, p.1 = P → p.2 = X.env.qual ++ "<lambda>") (hr : Room (k + 2) X.A) (L : LamSD X.env.scope scope kp) (hpN : kp ∉ X.N)
    (hdef : defaultsOf params X.env = ([eval (.Constant (.int iv) ij ip) X.env], [])) (hkw : params.kwonlyargs = [])
    (hbind : ∀ (q : Str) (cl : List (Str × Addr)) (tp : Addr) (pm cv ctv v : Value), ∃ k, bindArgs (fnD q params body scope cl (.ref tp) pm cv ctv) ⟨[], []⟩ = seqItems? (.ref tp) >>= k ∧ k (some #[v]) = pure [(kp, v)])
    (hbody : ∀ (A : Around) (outer : List Env) (s : Shared) (H : Hp) (E : XK) (f c' : Addr), Room k (A.deeper (lamEnv X scope s.heap.objs.size f c')) → PE (lamCx X A outer s H E scope f c') body (t E))
    (hdb : (x == ("__debug__" : Str)) = false := by decide) (hd : (a == ("__debug__" : Str)) = false := by decide) (hcd : (a == ("__classdict__" : Str)) = false := by decide) :
    PE X (.Call (.Name x p) [.Lambda params body scope lpos] [] pos) (tLam T TT t) := by
  refine ⟨fun pins s σ H Q I h => ?_⟩
  obtain ⟨hT, h⟩ := h
  refine wpAny_Call_Name_kw (ld_glob I hg hm ?_ hdb)
  refine PySem.W.callWith_K (h₀ := X.base) I.ok.mod.kin hk ?_ (by rfl) (by rfl)
  show wpAny _ _ (spliced ((false, eval (.Lambda params body scope lpos) X.env) :: backTo pos (starEach [] X.env))) _ _ s
  refine Calls.spliced_cons (makeD I TB hcode hmT hu hT hdef hkw (L.has I.ok) fun f c' tp tk0 pm' ctv H1 s' I1 eN T1 hf hfn hfr htp htn htr hco => ?_)
  refine Calls.spliced_nil ⟨I1.kIn, ?_⟩
  have rc : codeAny (model X.prog X.w) X.A (.call (.ref g) ⟨[.ref f], []⟩) (CR C8.CX0 X.stack X.prog X.w H1 s' Q C8.E0) s' := by
    refine run_ofS (N := Ng) (ps := [a]) (us := [.ref f]) (vs := [.ref f]) lk hcg Sg hr I1.env0 (hb s' [.ref f] I1.kIn rfl) (.cons rfl .nil) rfl fun hr' => ?_
    obtain ⟨t', ht', hq'⟩ := hG f c' s' H1 Q (fun E H' Q' => t E σ H' Q') (fun W pn xe E p1 p2 tk hW => actD (i := 0) I1 L hpN hf hfn hfr htp htn htr (fun v => hbind _ _ _ _ _ _ v) tk hW hr' (fun A outer s H hr2 => hbody A outer s H E f c' hr2) hNg hva hd hcd) hco (h H1 eN T1)
    exact ⟨t', ht'.nox, hq'⟩
  refine wpAny_call (codeAny_mono rc fun r s2 hq => ?_)
  cases r with
  | error e => exact (show False from hq).elim
  | ok fl =>
    cases fl with
    | ret u => exact I1.after hq
    | next => exact False.elim hq
    | brk => exact False.elim hq
    | cont => exact False.elim hq
end
end DL

set_option Elab.async false
set_option linter.all false
set_option maxRecDepth 100000
set_option maxHeartbeats 4000000
/-! words for a whole program: defs by name, data, what is kept -/
namespace DL
open PySem PySem.Spec PyProof.Rows L2
/-! ### a def of the module, by its name -/
section
variable (P : Program) (w : World) (K : PySem.W.Frag) (mg : Str → Option Value) (base : Heap)
/-- the def x of the module stands there and keeps sp; n parameters ps, none with a default -/
structure Cal (k : Nat) (x : Str) (st : Stmt) (ps : List Str) (sp : Sp) : Prop where
  ex : ∃ (f : Addr) (fd : FuncData), mg x = some (.ref f) ∧ FunD K x x (defArgs st) (defBody st) (defScope st) [] [] f fd ∧ FnOk P w K mg base (L2.CX P w) k f fd ps sp
end
section
variable {X : Cx} {k j : Nat} {x : Str} {st : Stmt} {ps : List Str} {sp sp' : Sp} {E : XK} {p pos : Pos} {e : Expr} {es : List Expr} {t : TA}
theorem Cal.imp {P : Program} {w : World} {K : PySem.W.Frag} {mg : Str → Option Value} {base : Heap} (C : Cal P w K mg base k x st ps sp) (h : ∀ vs H Q E, sp' vs H Q E → sp vs H Q E) : Cal P w K mg base k x st ps sp' := by
  obtain ⟨f, fd, a, b, c⟩ := C.ex
  exact ⟨f, fd, a, b, c.imp h⟩
/-- the parameters' binding, told of the def's own text -/
def Bd (x : Str) (st : Stmt) (ps : List Str) : Prop := ∀ (kV doc pm : Value) (an : Option Addr) (cdv ct : Value) (us : List Value), us.length = ps.length → bindArgs (PySem.W.fnOf x x (defArgs st) (defBody st) (defScope st) .none kV doc pm an cdv ct) ⟨us, []⟩ = pure (ps.zip us)
theorem pe_cal (C : Cal X.prog X.w X.K X.mg X.base j x st ps sp) (bd : Bd x st ps) (hr : Room k X.A) (hj : j ≤ k) (hx : Passes (L2.CX X.prog X.w) X E) (hg : Gl X x) (ha : PA X (e :: es) t) (hdb : (x == ("__debug__" : Str)) = false := by decide)
    (he : starEach (e :: es) X.env = (false, eval e X.env) :: starEach es X.env := by rfl) (hpl : (backTo pos (starEach es X.env)).any (·.1) = false := by rfl) : PE X (.Call (.Name x p) (e :: es) [] pos) (tCall sp [] E t) := by
  obtain ⟨f, fd, hm, F, G⟩ := C.ex
  exact pe_call G (hr.mono hj) hg hm F.kp (F.bindsN bd) .nil hx ha hdb he hpl
/-- f(a = .., b = ..): keywords alone -/
theorem pe_callK0 {CX : CXT} {f : Addr} {fd : FuncData} {ks : List Str} {g : List Value → List Value → List Value} {gV : List V → List V → List V} {kws : List Keyword} {tk : TA} (F : FnOk X.prog X.w X.K X.mg X.base CX k f fd ps sp) (hr : Room k X.A) (hg : Gl X x) (hm : X.mg x = some (.ref f)) (hk : PySem.W.keepIn X.K (.ref f) = true) (hb : KBinds X.K fd ps ks g gV) (hx : Passes CX X E)
    (hkw : PK X kws tk) (hall : (backToKw pos (keywordEach kws X.env)).all (·.1.isSome) = true := by rfl) (hks : (backToKw pos (keywordEach kws X.env)).filterMap (·.1) = ks := by rfl)
    (hdb : (x == ("__debug__" : Str)) = false := by decide) (hpl : ((backTo pos (starEach [] X.env)).any (·.1) || (backToKw pos (keywordEach kws X.env)).any (·.1.isNone)) = false := by rfl) :
    PE X (.Call (.Name x p) [] kws pos) (fun σ H Q => tk σ H fun zs H2 => sp (gV [] zs) H2 Q E) := by
  refine ⟨fun pins s σ H Q I h => ?_⟩
  refine wpAny_Call_Name_kw (ld_glob I hg hm ?_ hdb)
  refine PySem.W.callWith_KW0 (h₀ := X.base) I.ok.mod.kin hk hall (thn (hkw.run pos pins s σ H _ I h) fun ws s2 ⟨zs, H2, I2, rz, q2⟩ => ⟨I2.kIn, ?_⟩) hpl
  rw [hks]
  exact run_fnk F hr hb hx I2 .nil rz q2
/-- two keywords, in the parameters' order -/
def Bd2 (x : Str) (st : Stmt) (a b : Str) (ps : List Str) : Prop := ∀ (kV doc pm : Value) (an : Option Addr) (cdv ct u w : Value), bindArgs (PySem.W.fnOf x x (defArgs st) (defBody st) (defScope st) .none kV doc pm an cdv ct) ⟨[], [(a, u), (b, w)]⟩ = pure (ps.zip [u, w])
def Bd2r (x : Str) (st : Stmt) (a b : Str) (ps : List Str) : Prop := ∀ (kV doc pm : Value) (an : Option Addr) (cdv ct u w : Value), bindArgs (PySem.W.fnOf x x (defArgs st) (defBody st) (defScope st) .none kV doc pm an cdv ct) ⟨[], [(a, u), (b, w)]⟩ = pure (ps.zip [w, u])
/-- the values in the parameters' order; else a list of no use -/
def gOrd {α : Type} : List α → List α → List α
  | [], [u, v] => [u, v]
  | _, _ => []
def gRev {α : Type} : List α → List α → List α
  | [], [u, v] => [v, u]
  | _, _ => []
theorem gOrd_rel : ∀ {vs : List V} {us : List Value} {zs : List V} {ws : List Value}, Vals vs us → Vals zs ws → Vals (gOrd vs zs) (gOrd us ws)
  | _, _, _, _, .nil, .cons a (.cons b .nil) => .cons a (.cons b .nil)
  | _, _, _, _, .nil, .nil => .nil
  | _, _, _, _, .nil, .cons _ .nil => .nil
  | _, _, _, _, .nil, .cons _ (.cons _ (.cons _ _)) => .nil
  | _, _, _, _, .cons _ _, .nil => .nil
  | _, _, _, _, .cons _ _, .cons _ .nil => .nil
  | _, _, _, _, .cons _ _, .cons _ (.cons _ .nil) => .nil
  | _, _, _, _, .cons _ _, .cons _ (.cons _ (.cons _ _)) => .nil
theorem gRev_rel : ∀ {vs : List V} {us : List Value} {zs : List V} {ws : List Value}, Vals vs us → Vals zs ws → Vals (gRev vs zs) (gRev us ws)
  | _, _, _, _, .nil, .cons a (.cons b .nil) => .cons b (.cons a .nil)
  | _, _, _, _, .nil, .nil => .nil
  | _, _, _, _, .nil, .cons _ .nil => .nil
  | _, _, _, _, .nil, .cons _ (.cons _ (.cons _ _)) => .nil
  | _, _, _, _, .cons _ _, .nil => .nil
  | _, _, _, _, .cons _ _, .cons _ .nil => .nil
  | _, _, _, _, .cons _ _, .cons _ (.cons _ .nil) => .nil
  | _, _, _, _, .cons _ _, .cons _ (.cons _ (.cons _ _)) => .nil
theorem gOrd_two {α : Type} {us ws : List α} (h : (gOrd us ws).length = 2) : ∃ u v, us = [] ∧ ws = [u, v] := by
  match us, ws, h with
  | [], [u, v], _ => exact ⟨u, v, rfl, rfl⟩
  | [], [], h => exact absurd (show (0 : Nat) = 2 from h) (by decide)
  | [], [_], h => exact absurd (show (0 : Nat) = 2 from h) (by decide)
  | [], _ :: _ :: _ :: _, h => exact absurd (show (0 : Nat) = 2 from h) (by decide)
  | _ :: _, [], h => exact absurd (show (0 : Nat) = 2 from h) (by decide)
  | _ :: _, [_], h => exact absurd (show (0 : Nat) = 2 from h) (by decide)
  | _ :: _, [_, _], h => exact absurd (show (0 : Nat) = 2 from h) (by decide)
  | _ :: _, _ :: _ :: _ :: _, h => exact absurd (show (0 : Nat) = 2 from h) (by decide)
theorem gRev_two {α : Type} {us ws : List α} (h : (gRev us ws).length = 2) : ∃ u v, us = [] ∧ ws = [u, v] := by
  match us, ws, h with
  | [], [u, v], _ => exact ⟨u, v, rfl, rfl⟩
  | [], [], h => exact absurd (show (0 : Nat) = 2 from h) (by decide)
  | [], [_], h => exact absurd (show (0 : Nat) = 2 from h) (by decide)
  | [], _ :: _ :: _ :: _, h => exact absurd (show (0 : Nat) = 2 from h) (by decide)
  | _ :: _, [], h => exact absurd (show (0 : Nat) = 2 from h) (by decide)
  | _ :: _, [_], h => exact absurd (show (0 : Nat) = 2 from h) (by decide)
  | _ :: _, [_, _], h => exact absurd (show (0 : Nat) = 2 from h) (by decide)
  | _ :: _, _ :: _ :: _ :: _, h => exact absurd (show (0 : Nat) = 2 from h) (by decide)
/-- f(a = .., b = ..), a and b its two parameters -/
theorem pe_cal2 {a b : Str} {ea eb : Expr} {ta tb : TE} {ka kb : Pos} (C : Cal X.prog X.w X.K X.mg X.base j x st [a, b] sp) (bd : Bd2 x st a b [a, b]) (hr : Room k X.A) (hj : j ≤ k) (hx : Passes (L2.CX X.prog X.w) X E) (hg : Gl X x) (ha : PE X ea ta) (hb : PE X eb tb)
    (hdb : (x == ("__debug__" : Str)) = false := by decide) (hall : (backToKw pos (keywordEach [⟨some a, ea, ka⟩, ⟨some b, eb, kb⟩] X.env)).all (·.1.isSome) = true := by rfl) (hks : (backToKw pos (keywordEach [⟨some a, ea, ka⟩, ⟨some b, eb, kb⟩] X.env)).filterMap (·.1) = [a, b] := by rfl)
    (hpl : ((backTo pos (starEach [] X.env)).any (·.1) || (backToKw pos (keywordEach [⟨some a, ea, ka⟩, ⟨some b, eb, kb⟩] X.env)).any (·.1.isNone)) = false := by rfl) :
    PE X (.Call (.Name x p) [] [⟨some a, ea, ka⟩, ⟨some b, eb, kb⟩] pos) (fun σ H Q => ta σ H fun u H1 => tb σ H1 fun v H2 => sp [u, v] H2 Q E) := by
  obtain ⟨f, fd, hm, F, G⟩ := C.ex
  have kbn : KBinds X.K fd [a, b] [a, b] gOrd gOrd := by
    refine ⟨fun s us ws KX hl => ?_, gOrd_rel⟩
    obtain ⟨oc, od, dV, kV, doc, pm, an, cdv, ct, osl, rfl, lk, hcd, hD, hK⟩ := F.ex
    have hd : dV = .none := by
      rcases hD with ⟨_, e⟩ | ⟨e, _⟩
      · exact e
      · exact absurd rfl e
    subst hd
    obtain ⟨u, v, rfl, rfl⟩ := gOrd_two hl
    exact .of_eq (bd kV doc pm an cdv ct u v)
  exact pe_callK0 (p := p) (pos := pos) G (hr.mono hj) hg hm F.kp kbn hx (pk_cons ha (pk_cons hb pk_nil)) hall hks hdb hpl
/-- f(b = .., a = ..) -/
theorem pe_cal2r {a b : Str} {ea eb : Expr} {ta tb : TE} {ka kb : Pos} (C : Cal X.prog X.w X.K X.mg X.base j x st [a, b] sp) (bd : Bd2r x st b a [a, b]) (hr : Room k X.A) (hj : j ≤ k) (hx : Passes (L2.CX X.prog X.w) X E) (hg : Gl X x) (hb : PE X eb tb) (ha : PE X ea ta)
    (hdb : (x == ("__debug__" : Str)) = false := by decide) (hall : (backToKw pos (keywordEach [⟨some b, eb, kb⟩, ⟨some a, ea, ka⟩] X.env)).all (·.1.isSome) = true := by rfl) (hks : (backToKw pos (keywordEach [⟨some b, eb, kb⟩, ⟨some a, ea, ka⟩] X.env)).filterMap (·.1) = [b, a] := by rfl)
    (hpl : ((backTo pos (starEach [] X.env)).any (·.1) || (backToKw pos (keywordEach [⟨some b, eb, kb⟩, ⟨some a, ea, ka⟩] X.env)).any (·.1.isNone)) = false := by rfl) :
    PE X (.Call (.Name x p) [] [⟨some b, eb, kb⟩, ⟨some a, ea, ka⟩] pos) (fun σ H Q => tb σ H fun v H1 => ta σ H1 fun u H2 => sp [u, v] H2 Q E) := by
  obtain ⟨f, fd, hm, F, G⟩ := C.ex
  have kbn : KBinds X.K fd [a, b] [b, a] gRev gRev := by
    refine ⟨fun s us ws KX hl => ?_, gRev_rel⟩
    obtain ⟨oc, od, dV, kV, doc, pm, an, cdv, ct, osl, rfl, lk, hcd, hD, hK⟩ := F.ex
    have hd : dV = .none := by
      rcases hD with ⟨_, e⟩ | ⟨e, _⟩
      · exact e
      · exact absurd rfl e
    subst hd
    obtain ⟨u, v, rfl, rfl⟩ := gRev_two hl
    exact .of_eq (bd kV doc pm an cdv ct u v)
  exact pe_callK0 (p := p) (pos := pos) G (hr.mono hj) hg hm F.kp kbn hx (pk_cons hb (pk_cons ha pk_nil)) hall hks hdb hpl
end
/-- // by any divisor but 0, below 2 ^ 9000 -/
def CDivA (_ j : Int) : Prop := j ≠ 0 ∧ j.natAbs.log2 < 9000
theorem op_fdivA {X : Cx} : OpR X (binaryOp .FloorDiv) (rI CDivA fun i j => .int (i.fdiv j)) := opI fun i j _ _ _ _ _ hc q => floordiv_int hc.1 q (.inl (PyProof.noPylong_of_log2 hc.2))
end DL

set_option Elab.async false
set_option linter.all false
set_option maxRecDepth 100000
set_option maxHeartbeats 4000000
/-! own error classes whose __init__ keeps one field; data -/
namespace DL
open PySem PySem.Spec PyProof.Rows L2
abbrev Ex : Hp → Hp → Prop := Evl.Ex
theorem ex_refl (H : Hp) : Ex H H := Evl.Ex.refl H
theorem ex_new {H : Hp} {p : Addr} {o : HO} (h : H p = none) : Ex H (upd H p o) := Evl.Ex.new h
theorem Ex.tr {H H1 H2 : Hp} (a : Ex H H1) (b : Ex H1 H2) : Ex H H2 := Evl.Ex.trans a b
theorem Ex.back {H H' : Hp} {p : Addr} (e : Ex H H') (h : H' p = none) : H p = none := Evl.fresh_back e h
/-! ### an error's __init__(self, f): self.f = f -/
def spXI (K : PySem.W.Frag) (C : Addr) (f : Str) : Sp := fun vs H Q _ => ∃ (a : Addr) (v : V), vs = [.ref a, v] ∧ H a = some (exo a C none) ∧ OexC K C ∧ PySem.W.findIn K (.ref C) f = some none ∧
  ∀ dx, H dx = none → dx ≠ a → Q .non (upd (upd H dx (exd dx [(f, v)])) a (exo a C (some dx)))
def initBody (f : Str) (p1 p2 p3 p4 : Pos) : List Stmt := [.Assign [.Attribute (.Name "self" p1) f p2] (.Name f p3) p4]
section
variable {P : Program} {w : World} {K : PySem.W.Frag} {mg : Str → Option Value} {base : Heap}
theorem xi_ok {q f : Str} {st : Stmt} {fI C : Addr} {fd : FuncData} {p1 p2 p3 p4 : Pos} (F : FunD K "__init__" q (defArgs st) (defBody st) (defScope st) [] [] fI fd) (S : FnScope ["self", f] ["self", f] (defScope st)) (hb : defBody st = initBody f p1 p2 p3 p4)
    (hl : (defScope st).names.lookup ("self" : Str) = some NameKind.local) (hf : (defScope st).names.lookup f = some NameKind.local) (hd : (f == ("__debug__" : Str)) = false) (hcd : (f == ("__classdict__" : Str)) = false) : FnOk P w K mg base (L2.CX P w) 1 fI fd ["self", f] (spXI K C f) := by
  refine F.ok S (fun vs H Q E h => ?_) (fun cdv A outer s H vs Q E hr h => ?_)
  · obtain ⟨a, v, rfl, _⟩ := h
    rfl
  · obtain ⟨a, v, rfl, ha, T, hno, k⟩ := h
    rw [hb]
    refine ⟨_, pss_one (ps_ost (f := f) (pe_var (i := 0) rfl (.inl hl)) (pe_var (i := 1) rfl (.inl hf) hd hcd)), ?_⟩
    exact ⟨_, rfl, _, rfl, a, C, rfl, T, hno, .inl ⟨ha, fun dx h1 h2 => k dx h1 h2⟩⟩
/-- what is known of an own error class x, at C, that keeps the field f -/
structure XCls (P : Program) (w : World) (K : PySem.W.Frag) (mg : Str → Option Value) (base : Heap) (x f : Str) (C : Addr) : Prop where
  gC : mg x = some (.ref C)
  oex : OexC K C
  xc : XcC K C
  no : PySem.W.findIn K (.ref C) f = some none
  ini : ∃ (fI : Addr) (fd : FuncData) (q : Str) (st : Stmt), PySem.W.findIn K (.ref C) "__init__" = some (some (.ref fI)) ∧ PySem.W.typeIn K (.ref fI) = some (.type "function") ∧
    FunD K "__init__" q (defArgs st) (defBody st) (defScope st) [] [] fI fd ∧ Binds K fd ["self", f] [] ∧ FnOk P w K mg base (L2.CX P w) 1 fI fd ["self", f] (spXI K C f)
end
section
variable {X : Cx} {x f : Str} {C : Addr} {e : Expr} {te : TE} {p pos pos2 : Pos} {k : Nat} {W : WX}
/-- raise x(e) -/
def tRz (C : Addr) (f : Str) (W : WX) (te : TE) : TS := fun _ σ H => te σ H fun v H1 => ∀ d H', Ex H1 H' → H1 d = none → H' d = some (.xd [(f, v)]) → W (.ref C) (some d) σ H'
/-- the same, of any lesser wish -/
def tM (te : TE) : TE := fun σ H Q' => ∃ Q : VK, te σ H Q ∧ ∀ v H1, Q v H1 → Q' v H1
theorem pe_m (he : PE X e te) : PE X e (tM te) := ⟨fun pins s σ H Q' I ⟨Q, h, hq⟩ => thn (he.run pins s σ H Q I h) fun u s1 ⟨v, H1, I1, r1, q1⟩ => ⟨v, H1, I1, r1, hq v H1 q1⟩⟩
theorem ps_rz (hc : X.calm = true) (T : XCls X.prog X.w X.K X.mg X.base x f C) (hr : Room k X.A) (hk : 2 ≤ k) (tk : Takes X W) (he : PE X e te) (hg : Gl X x) (hdb : (x == ("__debug__" : Str)) = false := by decide)
    (hs : starEach (e :: []) X.env = (false, eval e X.env) :: starEach [] X.env := by rfl) (hpl : (backTo pos (starEach [] X.env)).any (·.1) = false := by rfl) : PS X (.Raise (some (.Call (.Name x p) [e] [] pos)) none pos2) (tRz C f W te) := by
  obtain ⟨fI, fd, q, st, iC, tI, F, B, G⟩ := T.ini
  have h0 := ps_raise (pos := pos2) hc tk (pmk_oex (p := p) (pos := pos) T.oex iC tI G (hr.mono hk) B .nil passL hg T.gC (pa_cons (pe_m he) pa_nil hs) hdb hs hpl)
  refine ⟨fun pins s σ H D I h => h0.run pins s σ H D I ?_⟩
  refine ⟨_, h, fun v H1 hq => ?_⟩
  refine ⟨by show 1 ≤ 1000; decide, fun a na => ?_⟩
  refine ⟨a, v, rfl, upd_same, T.oex, T.no, fun dx h1 h2 => ⟨rfl, dx, [(f, v)], upd_same, ?_, ?_, ?_⟩⟩
  · rw [upd_ne h2, upd_same]
  · rw [upd_ne h2] at h1
    exact h1
  · rw [upd_ne h2] at h1
    refine hq dx _ (fun b o hb => ?_) h1 upd_same
    have hba : b ≠ a := ne_of_none hb na
    have hbd : b ≠ dx := ne_of_none hb h1
    rw [upd_ne hbd, del_ne hba, upd_ne hba, upd_ne hbd, upd_ne hba]
    exact hb
end
end DL

set_option Elab.async false
set_option linter.all false
set_option maxRecDepth 100000
set_option maxHeartbeats 4000000
/-! data: what a value stands for -/
namespace DL
open PySem PySem.Spec PyProof.Rows L2
def KL (K : PySem.W.Frag) (a : Addr) (xs : List V) : Prop := ∃ (o : Obj) (its : Array Value) (n : Nat), K.lookup a = some o ∧ o.cls = .type "list" ∧ o.dict = none ∧ o.data = .seq its n ∧ its.size ≤ sizeLine ∧ Vals xs its.toList
def KT (K : PySem.W.Frag) (a : Addr) (xs : List V) : Prop := ∃ (o : Obj) (its : Array Value) (n : Nat), K.lookup a = some o ∧ o.cls = .type "tuple" ∧ o.data = .seq its n ∧ its.size ≤ sizeLine ∧ Vals xs its.toList
mutual
/-- v stands for d; its lists and dicts stand at no place of N -/
inductive Rp (K : PySem.W.Frag) (N : Addr → Prop) (H : Hp) : V → PyData → Prop
  | non : Rp K N H .non .none
  | bl (b : Bool) : Rp K N H (.bl b) (.bool b)
  | int (i : Int) : Rp K N H (.int i) (.int i)
  | str (x : Str) : Rp K N H (.str x) (.str x)
  | lstc {a : Addr} {xs : List V} {ds : List PyData} : SqL K H a xs → (¬ N a ∨ KL K a xs) → RpA K N H xs ds → Rp K N H (.ref a) (.list ds)
  | tupc {a : Addr} {xs : List V} {ds : List PyData} : SqT K H a xs → (¬ N a ∨ KT K a xs) → RpA K N H xs ds → Rp K N H (.ref a) (.tuple ds)
  | dic {a : Addr} : H a = some (.dK []) → ¬ N a → Rp K N H (.ref a) (.dict [])
inductive RpA (K : PySem.W.Frag) (N : Addr → Prop) (H : Hp) : List V → List PyData → Prop
  | nil : RpA K N H [] []
  | cons {v : V} {vs : List V} {d : PyData} {ds : List PyData} : Rp K N H v d → RpA K N H vs ds → RpA K N H (v :: vs) (d :: ds)
end
theorem Rp.lst {K : PySem.W.Frag} {N : Addr → Prop} {H : Hp} {a : Addr} {xs : List V} {ds : List PyData} (h : SqL K H a xs) (n : ¬ N a) (r : RpA K N H xs ds) : Rp K N H (.ref a) (.list ds) := .lstc h (.inl n) r
theorem Rp.tup {K : PySem.W.Frag} {N : Addr → Prop} {H : Hp} {a : Addr} {xs : List V} {ds : List PyData} (h : SqT K H a xs) (n : ¬ N a) (r : RpA K N H xs ds) : Rp K N H (.ref a) (.tuple ds) := .tupc h (.inl n) r
/-- what stands at no place of N, and is no table, is kept -/
def Kp (N : Addr → Prop) (H H' : Hp) : Prop := ∀ b o, H b = some o → ¬ N b → (∀ ps, o ≠ .tbl ps) → H' b = some o
abbrev N0 : Addr → Prop := fun _ => False
abbrev N1 (p : Addr) : Addr → Prop := fun b => b = p
theorem Kp.refl (N : Addr → Prop) (H : Hp) : Kp N H H := fun _ _ h _ _ => h
theorem Kp.tr {N : Addr → Prop} {H H1 H2 : Hp} (a : Kp N H H1) (b : Kp N H1 H2) : Kp N H H2 := fun c o h n t => b c o (a c o h n t) n t
theorem Kp.of {N : Addr → Prop} {H H' : Hp} (e : Ex H H') : Kp N H H' := fun b o h _ _ => e b o h
theorem Kp.ext {N : Addr → Prop} {H H' : Hp} (e : LamX.ExtN H H') : Kp N H H' := fun b o h _ t => e b o h t
theorem Kp.pn {p : Addr} {H : Hp} {o : HO} : Kp (N1 p) H (upd H p o) := fun b u h n _ => by
  rw [upd_ne n]
  exact h
section
variable {K : PySem.W.Frag} {N N' : Addr → Prop} {H H' : Hp}
theorem kp_rd {a : Addr} {u : HO} (k : Kp N H H') (n : ¬ N a) (hu : ∀ ps, u ≠ .tbl ps) (h : Rd H a u) : Rd H' a u := by
  rcases h with h | ⟨o, h⟩
  · exact .inl (k a _ h n hu)
  · exact .inr ⟨o, k a _ h n (fun ps z => by cases z)⟩
theorem kp_l {a : Addr} {xs : List V} (k : Kp N H H') (n : ¬ N a) (h : SqL K H a xs) : SqL K H' a xs := by
  rcases h with h | h
  · exact .inl (kp_rd k n (fun ps z => by cases z) h)
  · exact .inr h
theorem kp_t {a : Addr} {xs : List V} (k : Kp N H H') (n : ¬ N a) (h : SqT K H a xs) : SqT K H' a xs := by
  rcases h with h | h
  · exact .inl (kp_rd k n (fun ps z => by cases z) h)
  · exact .inr h
mutual
theorem Rp.kp (k : Kp N H H') : ∀ {v : V} {d : PyData}, Rp K N H v d → Rp K N H' v d
  | _, _, .non => .non
  | _, _, .bl b => .bl b
  | _, _, .int i => .int i
  | _, _, .str x => .str x
  | _, _, .lstc h n a => .lstc (n.elim (fun n => kp_l k n h) .inr) n (RpA.kp k a)
  | _, _, .tupc h n a => .tupc (n.elim (fun n => kp_t k n h) .inr) n (RpA.kp k a)
  | _, _, .dic h n => .dic (k _ _ h n (fun ps z => by cases z)) n
theorem RpA.kp (k : Kp N H H') : ∀ {vs : List V} {ds : List PyData}, RpA K N H vs ds → RpA K N H' vs ds
  | _, _, .nil => .nil
  | _, _, .cons a b => .cons (Rp.kp k a) (RpA.kp k b)
end
mutual
theorem Rp.wk (hn : ∀ a, N' a → N a) : ∀ {v : V} {d : PyData}, Rp K N H v d → Rp K N' H v d
  | _, _, .non => .non
  | _, _, .bl b => .bl b
  | _, _, .int i => .int i
  | _, _, .str x => .str x
  | _, _, .lstc h n a => .lstc h (n.imp (fun n z => n (hn _ z)) id) (RpA.wk hn a)
  | _, _, .tupc h n a => .tupc h (n.imp (fun n z => n (hn _ z)) id) (RpA.wk hn a)
  | _, _, .dic h n => .dic h (fun z => n (hn _ z))
theorem RpA.wk (hn : ∀ a, N' a → N a) : ∀ {vs : List V} {ds : List PyData}, RpA K N H vs ds → RpA K N' H vs ds
  | _, _, .nil => .nil
  | _, _, .cons a b => .cons (Rp.wk hn a) (RpA.wk hn b)
end
theorem rd_some {a : Addr} {u : HO} (h : Rd H a u) : H a ≠ none := by
  rcases h with h | ⟨o, h⟩ <;> rw [h] <;> exact fun z => by cases z
mutual
/-- a datum that stands there stands at no new place -/
theorem Rp.add {D : Addr} (hD : H D = none) : ∀ {v : V} {d : PyData}, Rp K N H v d → Rp K (fun b => N b ∨ b = D) H v d
  | _, _, .non => .non
  | _, _, .bl b => .bl b
  | _, _, .int i => .int i
  | _, _, .str x => .str x
  | _, _, .lstc h n a => .lstc h (h.elim (fun q => n.imp (fun n z => z.elim n fun e => rd_some q (by rw [e]; exact hD)) id) .inr) (RpA.add hD a)
  | _, _, .tupc h n a => .tupc h (h.elim (fun q => n.imp (fun n z => z.elim n fun e => rd_some q (by rw [e]; exact hD)) id) .inr) (RpA.add hD a)
  | _, _, .dic h n => .dic h (fun z => z.elim n fun e => by rw [e, hD] at h; cases h)
theorem RpA.add {D : Addr} (hD : H D = none) : ∀ {vs : List V} {ds : List PyData}, RpA K N H vs ds → RpA K (fun b => N b ∨ b = D) H vs ds
  | _, _, .nil => .nil
  | _, _, .cons a b => .cons (Rp.add hD a) (RpA.add hD b)
end
theorem Rp.n0 {v : V} {d : PyData} (h : Rp K N H v d) : Rp K N0 H v d := h.wk fun _ z => z.elim
theorem Rp.ex {v : V} {d : PyData} (h : Rp K N H v d) (e : Ex H H') : Rp K N H' v d := h.kp (Kp.of e)
/-- the name of the type -/
def tyN : PyData → String
  | .none => "NoneType"
  | .bool _ => "bool"
  | .int _ => "int"
  | .str _ => "str"
  | .list _ => "list"
  | .tuple _ => "tuple"
  | .dict _ => "dict"
theorem Rp.ty {v : V} {d : PyData} (h : Rp K N H v d) : TyX K H v (.type (tyN d)) := by
  cases h with
  | non => exact .base .non
  | bl b => exact .base (.bl b)
  | int i => exact .base (.int i)
  | str x => exact .base (.str x)
  | lstc h _ _ =>
    rcases h with (h | ⟨o, h⟩) | ⟨o, its, n, h, hc, _⟩
    · exact .base (.lst h)
    · exact .base (.frz h)
    · exact .kList h hc
  | tupc h _ _ =>
    rcases h with (h | ⟨o, h⟩) | ⟨o, its, n, h, hc, _⟩
    · exact .base (.tup h)
    · exact .fTuple h
    · exact .kTuple h hc
  | dic h _ => exact .base (.dK h)
/-- isinstance(x, T) of such a value, T a built-in type -/
def isTyS (a b : String) : Bool := match kitB a b with
  | some r => r
  | none => false
abbrev isTy (b : String) (d : PyData) : Bool := isTyS (tyN d) b
def tyNs : List String := ["NoneType", "bool", "int", "str", "list", "tuple", "dict"]
theorem tyN_mem (d : PyData) : tyN d ∈ tyNs := by
  cases d <;> simp [tyN, tyNs]
theorem kit_any {b : String} (h : (tyNs.all fun a => kitB a b == some (isTyS a b)) = true) (d : PyData) : PySem.W.kitOne K (.type (tyN d)) (.type b) = some (isTy b d) :=
  kit_ty (eq_of_beq (List.all_eq_true.mp h _ (tyN_mem d)))
theorem kit_int (d : PyData) : PySem.W.kitOne K (.type (tyN d)) (.type "int") = some (isTy "int" d) := kit_any (by decide +kernel) d
theorem kit_bool (d : PyData) : PySem.W.kitOne K (.type (tyN d)) (.type "bool") = some (isTy "bool" d) := kit_any (by decide +kernel) d
theorem kit_list (d : PyData) : PySem.W.kitOne K (.type (tyN d)) (.type "list") = some (isTy "list" d) := kit_any (by decide +kernel) d
theorem kit_tuple (d : PyData) : PySem.W.kitOne K (.type (tyN d)) (.type "tuple") = some (isTy "tuple" d) := kit_any (by decide +kernel) d
theorem kit_str (d : PyData) : PySem.W.kitOne K (.type (tyN d)) (.type "str") = some (isTy "str" d) := kit_any (by decide +kernel) d
end
theorem isTy_int (d : PyData) : isTy "int" d = (match d with | .int _ => true | .bool _ => true | _ => false) := by
  have h : (tyNs.map fun a => isTyS a "int") = [false, true, true, false, false, false, false] := by decide +kernel
  simp only [tyNs, List.map_cons, List.map_nil, List.cons.injEq] at h
  cases d <;> simp only [isTy, tyN, h]
theorem isTy_bool (d : PyData) : isTy "bool" d = (match d with | .bool _ => true | _ => false) := by
  have h : (tyNs.map fun a => isTyS a "bool") = [false, true, false, false, false, false, false] := by decide +kernel
  simp only [tyNs, List.map_cons, List.map_nil, List.cons.injEq] at h
  cases d <;> simp only [isTy, tyN, h]
theorem isTy_list (d : PyData) : isTy "list" d = (match d with | .list _ => true | _ => false) := by
  have h : (tyNs.map fun a => isTyS a "list") = [false, false, false, false, true, false, false] := by decide +kernel
  simp only [tyNs, List.map_cons, List.map_nil, List.cons.injEq] at h
  cases d <;> simp only [isTy, tyN, h]
theorem isTy_tuple (d : PyData) : isTy "tuple" d = (match d with | .tuple _ => true | _ => false) := by
  have h : (tyNs.map fun a => isTyS a "tuple") = [false, false, false, false, false, true, false] := by decide +kernel
  simp only [tyNs, List.map_cons, List.map_nil, List.cons.injEq] at h
  cases d <;> simp only [isTy, tyN, h]
end DL

set_option Elab.async false
set_option linter.all false
set_option maxRecDepth 100000
set_option maxHeartbeats 4000000
/-! rules over data -/
namespace DL
open PySem PySem.Spec PyProof.Rows L2
def seqOf : PyData → Option (List PyData)
  | .list ds => some ds
  | .tuple ds => some ds
  | _ => none
section
variable {K : PySem.W.Frag} {N : Addr → Prop} {H : Hp}
theorem RpA.length {vs : List V} {ds : List PyData} (h : RpA K N H vs ds) : vs.length = ds.length := by
  induction ds generalizing vs with
  | nil =>
    cases h
    rfl
  | cons d ds ih =>
    cases h with
    | cons a b => exact congrArg Nat.succ (ih b)
theorem RpA.get : ∀ {vs : List V} {ds : List PyData} {i : Nat} {d : PyData}, RpA K N H vs ds → ds[i]? = some d → ∃ v, vs[i]? = some v ∧ Rp K N H v d
  | _, _, i, d, .nil, e => by simp at e
  | _, _, 0, d, .cons a b, e => by
    have e' := Option.some.inj e
    subst e'
    exact ⟨_, rfl, a⟩
  | _, _, i + 1, d, .cons a b, e => by
    have e' : _ = some d := e
    obtain ⟨v, h1, h2⟩ := RpA.get (i := i) b e'
    exact ⟨v, h1, h2⟩
theorem RpA.at : ∀ {vs : List V} {ds : List PyData} {i : Nat} {v : V}, RpA K N H vs ds → vs[i]? = some v → ∃ d, ds[i]? = some d ∧ Rp K N H v d
  | _, _, i, d, .nil, e => by simp at e
  | _, _, 0, d, .cons a b, e => by
    have e' := Option.some.inj e
    subst e'
    exact ⟨_, rfl, a⟩
  | _, _, i + 1, d, .cons a b, e => by
    have e' : _ = some d := e
    obtain ⟨v, h1, h2⟩ := RpA.at (i := i) b e'
    exact ⟨v, h1, h2⟩
theorem Rp.seq {v : V} {d : PyData} {ds : List PyData} (h : Rp K N H v d) (e : seqOf d = some ds) : ∃ a xs, v = .ref a ∧ (SqL K H a xs ∨ SqT K H a xs) ∧ True ∧ RpA K N H xs ds := by
  cases h with
  | lstc h n a =>
    have e' := Option.some.inj e
    subst e'
    exact ⟨_, _, rfl, .inl h, trivial, a⟩
  | tupc h n a =>
    have e' := Option.some.inj e
    subst e'
    exact ⟨_, _, rfl, .inr h, trivial, a⟩
  | _ => cases e
theorem seq_ty (d : PyData) : (isTy "list" d || isTy "tuple" d) = (seqOf d).isSome := by
  rw [isTy_list, isTy_tuple]
  cases d <;> rfl
end
section
variable {X : Cx} {e : Expr} {te : TE}
/-- isinstance(x, (list, tuple)) -/
def tSq (K : PySem.W.Frag) (te : TE) : TE := fun σ H Q => te σ H fun v H1 => ∃ d, Rp K N0 H1 v d ∧ ∀ H2, Ex H1 H2 → Q (.bl (seqOf d).isSome) H2
theorem pe_sq {p1 p2 p3 p4 pos : Pos} {k : Nat} (he : PE X e te) (hg : Gl X "isinstance") (gl : Gl X "list") (gt : Gl X "tuple") (m1 : X.mg "isinstance" = none) (m2 : X.mg "list" = none) (m3 : X.mg "tuple" = none)
    (hs : starEach (e :: [.Tuple [.Name "list" p2, .Name "tuple" p3] k p4]) X.env = (false, eval e X.env) :: starEach [.Tuple [.Name "list" p2, .Name "tuple" p3] k p4] X.env := by rfl) (hpl : (backTo pos (starEach [.Tuple [.Name "list" p2, .Name "tuple" p3] k p4] X.env)).any (·.1) = false := by rfl) :
    PE X (.Call (.Name "isinstance" p1) [e, .Tuple [.Name "list" p2, .Name "tuple" p3] k p4] [] pos) (tSq X.K te) := by
  have h0 := pe_callB (p := p1) (pos := pos) (X := X) call_isiT hg m1 (by decide +kernel) (pa_cons (pe_m he) (pa_cons (pe_tup (pos := p4) (x1 := k) (pa_cons (pe_bltn (v := .ty "list") (pos := p2) gl m2 (by decide +kernel) rfl) (pa_cons (pe_bltn (v := .ty "tuple") (pos := p3) gt m3 (by decide +kernel) rfl) pa_nil))) pa_nil) hs) (he := hs) (hpl := hpl)
  refine ⟨fun pins s σ H Q I h => h0.run pins s σ H Q I ?_⟩
  refine ⟨_, h, fun v H1 ⟨d, hv, q⟩ => ⟨by decide, fun p hp => ?_⟩⟩
  refine ⟨v, p, [.ty "list", .ty "tuple"], .type (tyN d), [.type "list", .type "tuple"], (seqOf d).isSome, rfl, upd_same, .cons (.ty _) (.cons (.ty _) .nil), (hv.ex (ex_new hp)).ty, ?_, q _ (ex_new hp)⟩
  rw [← seq_ty]
  refine kitAny_cons (kit_list d) (fun e1 => kitAny_cons (kit_tuple d) (fun e2 => ?_) fun e2 => ?_) fun e1 => ?_
  · rw [e1, e2]
    exact kitAny_nil
  · rw [e1, e2]
    rfl
  · rw [e1]
    rfl
/-- len(x) -/
def tLn (K : PySem.W.Frag) (te : TE) : TE := fun σ H Q => te σ H fun v H1 => ∃ d ds, Rp K N0 H1 v d ∧ seqOf d = some ds ∧ Q (.int ds.length) H1
theorem pe_ln {p1 pos : Pos} (he : PE X e te) (hg : Gl X "len") (m1 : X.mg "len" = none) (hs : starEach (e :: []) X.env = (false, eval e X.env) :: starEach [] X.env := by rfl) (hpl : (backTo pos (starEach [] X.env)).any (·.1) = false := by rfl) :
    PE X (.Call (.Name "len" p1) [e] [] pos) (tLn X.K te) := by
  have h0 := pe_callB (p := p1) (pos := pos) (X := X) call_len hg m1 (by decide +kernel) (pa_cons (pe_m he) pa_nil hs) (he := hs) (hpl := hpl)
  refine ⟨fun pins s σ H Q I h => h0.run pins s σ H Q I ?_⟩
  refine ⟨_, h, fun v H1 ⟨d, ds, hv, hd, q⟩ => ?_⟩
  obtain ⟨a, xs, rfl, hx, _, ha⟩ := hv.seq hd
  refine ⟨_, _, rfl, ?_, q⟩
  rcases hx with hx | hx
  · exact .inl ⟨_, hx, ha.length.symm⟩
  · exact .inr ⟨_, hx, ha.length.symm⟩
/-- x[i], at a place that is there -/
def tAt (K : PySem.W.Frag) (te ti : TE) : TE := fun σ H Q => te σ H fun v H1 => ti σ H1 fun u H2 => ∃ (N : Addr → Prop) (d : PyData) (ds : List PyData) (i : Nat) (z : PyData), Rp K N H2 v d ∧ seqOf d = some ds ∧ u = .int i ∧ ds[i]? = some z ∧ ∀ v', Rp K N H2 v' z → Q v' H2
theorem pe_at {ei : Expr} {ti : TE} {pos : Pos} (he : PE X e te) (hi : PE X ei ti) (hs : PlainIx ei) : PE X (.Subscript e ei pos) (tAt X.K te ti) := by
  have h0 := pe_ix (pos := pos) ix_seq (pe_m he) (pe_m hi) hs
  refine ⟨fun pins s σ H Q I h => h0.run pins s σ H Q I ?_⟩
  refine ⟨_, h, fun v H1 h2 => ⟨_, h2, fun u H2 ⟨N, d, ds, i, z, hv, hd, hu, hz, q⟩ => ?_⟩⟩
  obtain ⟨a, xs, rfl, hx, _, ha⟩ := hv.seq hd
  obtain ⟨v', hv', rv⟩ := ha.get hz
  subst hu
  rcases hx with hx | hx
  · exact .inl ⟨_, _, _, _, rfl, rfl, hx, atI_nat hv', q v' rv⟩
  · exact .inr (.inl ⟨_, _, _, _, rfl, rfl, hx, atI_nat hv', q v' rv⟩)
end
section
variable {K : PySem.W.Frag} {σ : L2.St} {H : Hp} {te ta tb ti : TE} {t : TA} {v : V} {vs : List V} {i j : Int}
/-- an argument list's values, the heap as it was -/
def VA (t : TA) (σ : L2.St) (H : Hp) (vs : List V) : Prop := ∀ Q : List V → Hp → Prop, Q vs H → t σ H Q
theorem va_nil : VA tNil σ H [] := fun _ q => q
theorem va_cons (h : Val te σ H v) (r : VA t σ H vs) : VA (tCons te t) σ H (v :: vs) := fun Q q => h _ (r _ q)
theorem va1 {v : V} (h : Val te σ H v) : VA (tCons te tNil) σ H [v] := va_cons h va_nil
theorem va2 {v u : V} (h : Val ta σ H v) (h2 : Val tb σ H u) : VA (tCons ta (tCons tb tNil)) σ H [v, u] := va_cons h (va1 h2)
theorem vl_I0 {g : Int → Int → V} (ha : Val ta σ H (.int i)) (hb : Val tb σ H (.int j)) : Val (tOp (rI0 g) ta tb) σ H (g i j) := val_op ha hb fun Q q => ⟨i, j, rfl, rfl, q⟩
theorem vl_I {C : Int → Int → Prop} {g : Int → Int → V} (ha : Val ta σ H (.int i)) (hb : Val tb σ H (.int j)) (hc : C i j) : Val (tOp (rI C g) ta tb) σ H (g i j) := val_op ha hb fun Q q => ⟨i, j, rfl, rfl, hc, q⟩
theorem vl_U {g : Int → V} (ha : Val ta σ H (.int i)) : Val (tUn (rU g) ta) σ H (g i) := fun Q q => ha _ ⟨i, rfl, q⟩
theorem vl_at {d z : PyData} {ds : List PyData} {n : Nat} {u : V} (ha : Val ta σ H v) (hi : Val ti σ H (.int n)) (r : Rp K N0 H v d) (hs : seqOf d = some ds) (hz : ds[n]? = some z) (hu : ∀ v', Rp K N0 H v' z → v' = u) : Val (tAt K ta ti) σ H u :=
  fun Q q => ha _ (hi _ ⟨N0, d, ds, n, z, r, hs, rfl, hz, fun v' r' => by rw [hu v' r']; exact q⟩)
theorem rp_int {N : Addr → Prop} {v : V} {i : Int} (h : Rp K N H v (.int i)) : v = .int i := by
  cases h
  rfl
end
section
variable {σ : L2.St} {H : Hp} {t : TA} {vs : List V} {sp : Sp} {E : XK} {D : Ends} {te : TE} {v : V}
theorem rt_call (h : VA t σ H vs) (k : sp vs H D.rt E) : tRet (tCall sp [] E t) D σ H := h _ (by rw [List.append_nil]; exact k)
theorem rt_val (h : Val te σ H v) (k : D.rt v H) : tRet te D σ H := h _ k
theorem te_call {Q : VK} (h : VA t σ H vs) (k : sp vs H Q E) : tCall sp [] E t σ H Q := h _ (by rw [List.append_nil]; exact k)
theorem sq_par {i j : Nat} {ta : TA} {u : TS} (h : ta σ H fun vs H1 => ∃ v w, vs = [v, w] ∧ u D ((σ.set i (some v)).set j (some w)) H1) : tSeq (tPar i j ta) u D σ H := h
theorem sq_set {i : Nat} {u : TS} (h : te σ H fun v H1 => u D (σ.set i (some v)) H1) : tSeq (tAsg te (gName i)) u D σ H := h
theorem sq_val {i : Nat} {u : TS} (hv : Val te σ H v) (h : u D (σ.set i (some v)) H) : tSeq (tAsg te (gName i)) u D σ H := hv _ h
theorem if_ans {c : TT} {t u : TS} {b : Bool} (h : Ans c σ H b) (k : if b = true then t D σ H else u D σ H) : tIfS c t u D σ H := h _ k
theorem sq_if {c : TT} {t u : TS} {r : TS} {b : Bool} (h : Ans c σ H b) (k : if b = true then t { D with nx := r D } σ H else u { D with nx := r D } σ H) : tSeq (tIfS c t u) r D σ H := h _ k
end
end DL

set_option Elab.async false
set_option linter.all false
set_option maxRecDepth 100000
set_option maxHeartbeats 4000000
/-! the law's pen: cells, the next one's index, what is left of a great one -/
namespace DL
open PySem PySem.Spec PyProof.Rows L2
/-- the pen at pn, its cells at c0 -/
structure Pen (H : Hp) (pn c0 : Addr) (cells : List Int) (at_ left : Int) : Prop where
  p : H pn = some (.lst [.ref c0, .int at_, .int left])
  c : H c0 = some (.lst (cells.map V.int))
  a0 : 0 ≤ at_
  a1 : at_ ≤ 100000
  l0 : 0 ≤ left
  len : cells.length ≤ 63
theorem Pen.ne {H : Hp} {pn c0 : Addr} {cells : List Int} {a l : Int} (p : Pen H pn c0 cells a l) : c0 ≠ pn := fun z => by
  have h1 := p.p
  have h2 := p.c
  rw [z, h1] at h2
  have h3 := HO.lst.inj (Option.some.inj h2)
  cases cells with
  | nil => cases h3
  | cons x r =>
    rw [List.map_cons] at h3
    injection h3 with h4 h5
    cases h4
theorem Pen.ex {H H' : Hp} {pn c0 : Addr} {cells : List Int} {a l : Int} (p : Pen H pn c0 cells a l) (e : Ex H H') : Pen H' pn c0 cells a l := ⟨e _ _ p.p, e _ _ p.c, p.a0, p.a1, p.l0, p.len⟩
/-- all but what stands at pn is kept -/
def ExB (pn : Addr) (H H' : Hp) : Prop := ∀ b o, b ≠ pn → H b = some o → H' b = some o
theorem ExB.refl (pn : Addr) (H : Hp) : ExB pn H H := fun _ _ _ h => h
theorem ExB.tr {pn : Addr} {H H1 H2 : Hp} (a : ExB pn H H1) (b : ExB pn H1 H2) : ExB pn H H2 := fun c o n h => b c o n (a c o n h)
theorem ExB.of {pn : Addr} {H H' : Hp} (e : Ex H H') : ExB pn H H' := fun b o _ h => e b o h
theorem ExB.kp {pn : Addr} {H H' : Hp} (e : ExB pn H H') : Kp (N1 pn) H H' := fun b o h n _ => e b o n h
theorem ExB.upd {pn : Addr} {H : Hp} {o : HO} : ExB pn H (upd H pn o) := fun b u n h => by
  rw [upd_ne n]
  exact h
theorem Pen.exB {H H' : Hp} {pn c0 : Addr} {cells : List Int} {a l : Int} {a' l' : Int} (p : Pen H pn c0 cells a l) (e : ExB pn H H') (h : H' pn = some (.lst [.ref c0, .int a', .int l'])) (h1 : 0 ≤ a') (h2 : a' ≤ 100000) (h3 : 0 ≤ l') : Pen H' pn c0 cells a' l' := ⟨h, e _ _ p.ne p.c, h1, h2, h3, p.len⟩
/-- a draw's end: a number below many, the pen somewhat further -/
def DrawQ (H : Hp) (Q : VK) (pn c0 : Addr) (cells : List Int) (a many : Int) : Prop := ∀ (d a' l' : Int) (H' : Hp), 0 ≤ d → d < many → a ≤ a' → a' ≤ a + 1 → ExB pn H H' → Pen H' pn c0 cells a' l' → Q (.int d) H'
def spDraw : Sp := fun vs H Q _ => ∃ (pn c0 : Addr) (cells : List Int) (a l many : Int), vs = [.ref pn, .int many] ∧ Pen H pn c0 cells a l ∧ a < 100000 ∧ 0 < many ∧ many.natAbs < 2 ^ 8000 ∧ DrawQ H Q pn c0 cells a many
theorem ints_shaped (ns : List Int) : SeqAt.shaped (.list (ns.map PyData.int)) = true := by
  have h1 : PyData.canLayAll0 (ns.map PyData.int) = true := by
    induction ns with
    | nil => simp [PyData.canLayAll0]
    | cons n r ih => simp [PyData.canLayAll0, PyData.canLay0, ih]
  have h2 : PyData.depthAll (ns.map PyData.int) ≤ 1 := by
    induction ns with
    | nil => simp [PyData.depthAll]
    | cons n r ih =>
      simp only [List.map_cons, PyData.depthAll, PyData.depth]
      simp only [List.map_cons, PyData.canLayAll0, Bool.and_eq_true] at h1
      have := ih h1.2
      omega
  show (PyData.canLay0 (.list (ns.map PyData.int)) && decide (PyData.depth (.list (ns.map PyData.int)) ≤ 64)) = true
  rw [Bool.and_eq_true]
  refine ⟨by rw [PyData.canLay0]; exact h1, decide_eq_true ?_⟩
  rw [PyData.depth]
  omega
theorem dp_ints {K : PySem.W.Frag} {H : Hp} (ns : List Int) : DpAll K H (ns.map V.int) (ns.map PyData.int) := by
  induction ns with
  | nil => exact .nil
  | cons n r ih => exact .cons (.int n) ih
theorem eqv_nil (ns : List Int) : PyData.eqv (.list (ns.map PyData.int)) (.list []) = ns.isEmpty := by
  cases ns with
  | nil => simp [PyData.eqv, PyData.eqvAll]
  | cons n r => simp [PyData.eqv, PyData.eqvAll]
section
variable {K : PySem.W.Frag} {σ : L2.St} {H : Hp} {te ta tb ti : TE} {v u : V} {i j : Int}
theorem vl_ixL {p : Addr} {xs : List V} (ha : Val ta σ H (.ref p)) (hi : Val ti σ H (.int i)) (h : SqL K H p xs) (hz : atI xs i = some u) : Val (tOp (rIxL K) ta ti) σ H u := val_op ha hi fun Q q => ⟨p, xs, i, u, rfl, rfl, h, hz, q⟩
theorem vl_int1 (ha : Val ta σ H (.int i)) : Val (tCB (fun xs H Q => (∃ i, xs = [V.int i] ∧ Q (V.int i) H) ∨ ∃ k, xs = [V.bl k] ∧ Q (V.int (if k then 1 else 0)) H) (tCons ta tNil)) σ H (.int i) := fun Q q => ha _ (.inl ⟨i, rfl, q⟩)
theorem vl_intB {b : Bool} (ha : Val ta σ H (.bl b)) : Val (tCB (fun xs H Q => (∃ i, xs = [V.int i] ∧ Q (V.int i) H) ∨ ∃ k, xs = [V.bl k] ∧ Q (V.int (if k then 1 else 0)) H) (tCons ta tNil)) σ H (.int (if b then 1 else 0)) := fun Q q => ha _ (.inr ⟨b, rfl, q⟩)
theorem vl_abs (ha : Val ta σ H (.int i)) : Val (tCB (fun xs H Q => ∃ i, xs = [V.int i] ∧ Q (V.int (if i < 0 then -i else i)) H) (tCons ta tNil)) σ H (.int (if i < 0 then -i else i)) := fun Q q => ha _ ⟨i, rfl, q⟩
theorem vl_lenL {p : Addr} {xs : List V} (ha : Val ta σ H (.ref p)) (h : SqL K H p xs) : Val (tCB (fun vs H Q => ∃ x n, vs = [x] ∧ LenV K x H n ∧ Q (.int n) H) (tCons ta tNil)) σ H (.int xs.length) := fun Q q => ha _ ⟨_, _, rfl, .inl ⟨xs, h, rfl⟩, q⟩
theorem vl_lenT {p : Addr} {xs : List V} (ha : Val ta σ H (.ref p)) (h : SqT K H p xs) : Val (tCB (fun vs H Q => ∃ x n, vs = [x] ∧ LenV K x H n ∧ Q (.int n) H) (tCons ta tNil)) σ H (.int xs.length) := fun Q q => ha _ ⟨_, _, rfl, .inr ⟨xs, h, rfl⟩, q⟩
theorem vl_add (ha : Val ta σ H (.int i)) (hb : Val tb σ H (.int j)) : Val (tOp (rI0 fun i j => .int (i + j)) ta tb) σ H (.int (i + j)) := vl_I0 ha hb
theorem vl_sub (ha : Val ta σ H (.int i)) (hb : Val tb σ H (.int j)) : Val (tOp (rI0 fun i j => .int (i - j)) ta tb) σ H (.int (i - j)) := vl_I0 ha hb
theorem vl_mul (ha : Val ta σ H (.int i)) (hb : Val tb σ H (.int j)) (h : CMul i j) : Val (tOp (rI CMul fun i j => .int (i * j)) ta tb) σ H (.int (i * j)) := vl_I ha hb h
theorem vl_mulW (ha : Val ta σ H (.int i)) (hb : Val tb σ H (.int j)) (h : CMulW i j) : Val (tOp (rI CMulW fun i j => .int (i * j)) ta tb) σ H (.int (i * j)) := vl_I ha hb h
theorem vl_mod (ha : Val ta σ H (.int i)) (hb : Val tb σ H (.int j)) (h : 0 < j) : Val (tOp (rI (fun _ j => 0 < j) fun i j => .int (i % j)) ta tb) σ H (.int (i % j)) := vl_I ha hb h
theorem vl_pow (ha : Val ta σ H (.int i)) (hb : Val tb σ H (.int j)) (h : CPow i j) : Val (tOp (rI CPow fun i j => .int (i ^ j.toNat)) ta tb) σ H (.int (i ^ j.toNat)) := vl_I ha hb h
theorem vl_fdiv (ha : Val ta σ H (.int i)) (hb : Val tb σ H (.int j)) (h : L2.CDiv i j) : Val (tOp (rI L2.CDiv fun i j => .int (i / j)) ta tb) σ H (.int (i / j)) := vl_I ha hb h
theorem vl_fdivW (ha : Val ta σ H (.int i)) (hb : Val tb σ H (.int j)) (h : CDivW i j) : Val (tOp (rI CDivW fun i j => .int (i / j)) ta tb) σ H (.int (i / j)) := vl_I ha hb h
theorem vl_lt (ha : Val ta σ H (.int i)) (hb : Val tb σ H (.int j)) : Val (tOp (rI0 fun i j => .bl (decide (i < j))) ta tb) σ H (.bl (decide (i < j))) := vl_I0 ha hb
theorem vl_neg (ha : Val ta σ H (.int i)) : Val (tUn (rU fun i => .int (-i)) ta) σ H (.int (-i)) := vl_U ha
theorem an_I {g : Int → Int → Bool} (ha : Val ta σ H (.int i)) (hb : Val tb σ H (.int j)) : Ans (tTest (tOp (rI0 fun i j => .bl (g i j)) ta tb)) σ H (g i j) := ans_cmp ha hb fun Q q => ⟨i, j, rfl, rfl, q⟩
end
section
variable {σ : L2.St} {H : Hp} {D : Ends} {te to ti : TE} {v : V} {u t : TS}
/-- o[k] = e -/
theorem sq_store {p : Addr} {xs : List V} {k : Int} (j : Nat) (hv : Val te σ H v) (ho : Val to σ H (.ref p)) (hi : Val ti σ H (.int k)) (hp : H p = some (.lst xs)) (hx : ixN xs.length k = some j) (h : u D σ (upd H p (.lst (xs.set j v)))) : tSeq (tAsg te (gSub to ti rSetL)) u D σ H :=
  hv _ (ho _ (hi _ ⟨p, xs, k, j, rfl, rfl, hp, hx, h⟩))
theorem sq_cut (M : L2.St → Hp → Prop) (h : t { D with nx := M } σ H) (k : ∀ σ' H', M σ' H' → u D σ' H') : Evl.tCut t u D σ H := ⟨M, h, k⟩
end
theorem cm {i j : Int} (h1 : -(2 ^ 64) < i) (h2 : i < 2 ^ 64) : CMul i j := .inl ⟨h1, h2⟩
theorem cpw {i j : Int} (h1 : 0 ≤ j) (h2 : j ≤ 1000000) (h3 : i.natAbs < 2 ^ 64) : CPow i j := ⟨h1, h2, h3⟩
theorem cdv {i j : Int} (h1 : 0 < j) (h2 : j < 1073741824) : L2.CDiv i j := ⟨h1, h2⟩
theorem pr_lt {x y a b c : Int} (h0 : 0 ≤ x) (h1 : 0 ≤ y) (hx : x ≤ a) (hy : y ≤ b) (h : a * b ≤ c) : x * y ≤ c ∧ 0 ≤ x * y :=
  ⟨Int.le_trans (Int.mul_le_mul hx hy h1 (Int.le_trans h0 hx)) h, Int.mul_nonneg h0 h1⟩
end DL

set_option Elab.async false
set_option linter.all false
set_option maxRecDepth 100000
set_option maxHeartbeats 4000000
/-! a lambda handed to a def that calls it within a try: what is raised is told with that def's slots at the call -/
namespace DL
open PySem PySem.Spec PySem.Calls PyProof.Rows L2 LamX
open PySem.W (tabObj)
section
variable {X : Cx} {pins : List (Addr × Obj)} {σ : L2.St} {H HZ : Hp} {s s1 : Shared}
theorem actN {CXg : CXT} {Eg : XK} {Ng : List Str} {qg : Str} {sg : Scope} {g f c' : Addr} {cdg pm ctv : Value} {params : Arguments} {body : Expr} {scope : Scope} {k i : Nat} {a : Str} {pn : List (Addr × Obj)} {xe : Value → Shared → Prop} {W : WX} {E : XK} {tb : TE} {p1 p2 : Pos}
    (I : Inv X pins σ H s) (L : LamS X.env.scope scope) (hf : s.heap.get? f = some (PySem.W.kla_obj "<lambda>" (X.env.qual ++ "<lambda>") params body scope (cloFrom X.env.cells scope.names []) pm c' ctv)) (hfn : H f = none) (hfr : f ∉ frs X.stack)
    (hbind : bindArgs (PySem.W.kla_fn "<lambda>" (X.env.qual ++ "<lambda>") params body scope (cloFrom X.env.cells scope.names []) pm (.ref c') ctv) ⟨[], []⟩ = pure [])
    (tk : Takes ((cxOf CXg X.prog X.w X.K X.mg X.base Ng qg sg g cdg X.A X.stack s H Eg).tr pn xe) W) (hr : Room (k + 1) (X.A.deeper (envOfC qg sg s.heap.objs.size g cdg)))
    (hbody : ∀ (A : Around) (outer : List Env) (s : Shared) (H : Hp), Room k (A.deeper (lamEnv X scope s.heap.objs.size f c')) → PE (lamCx X A outer s H E scope f c') body tb)
    (hN : Ng[i]? = some a) (hv : Vis sg a) (hd : (a == ("__debug__" : Str)) = false := by decide) (hcd : (a == ("__classdict__" : Str)) = false := by decide) :
    PE ((cxOf CXg X.prog X.w X.K X.mg X.base Ng qg sg g cdg X.A X.stack s H Eg).tr pn xe) (.Call (.Name a p1) [] [] p2)
      (fun σZ HZ Q => σZ[i]? = some (some (.ref f)) ∧ HZ c' = some (CodeO c' (X.env.qual ++ "<lambda>")) ∧ (∀ cls d H', E cls d H' → W cls d σZ H') ∧ tb σ HZ Q) := by
  refine ⟨fun pinsZ sZ σZ HZ Q IZ h => ?_⟩
  obtain ⟨hs, hc, hW, ht⟩ := h
  refine wpAny_Call_Name_kw (thn ((pe_var (pos := p1) (i := i) hN hv hd hcd).run pinsZ sZ σZ HZ (fun v H1 => v = .ref f ∧ H1 = HZ) IZ ⟨.ref f, hs, rfl, rfl⟩) fun u s1 ⟨v, H1, I1, r1, q1⟩ => ?_)
  obtain ⟨ev, eH⟩ := q1
  subst ev
  rw [eH] at I1
  obtain rfl : u = Value.ref f := r1
  have of1 : s1.heap.get? f = some (PySem.W.kla_obj "<lambda>" (X.env.qual ++ "<lambda>") params body scope (cloFrom X.env.cells scope.names []) pm c' ctv) := I1.base.keep f _ hf hfn hfr (fun z => nomatch (show f ∈ ([] : List Addr) from z))
  refine PySem.W.callWith_F0 ⟨_, _, _, _, of1⟩ ?_
  have un : Un (frs X.stack) [] H HZ s.heap s1.heap := I1.base
  obtain ⟨⟨oc, vs, t, hoc, hdc, hvc⟩, _, _⟩ := I1.hok c' _ hc
  have rc : codeAny (model X.prog X.w) (X.A.deeper (envOfC qg sg s.heap.objs.size g cdg)) (.call (.ref f) ⟨[], []⟩) (CR (L2.CX X.prog X.w) (envOfC qg sg s.heap.objs.size g cdg :: X.stack) X.prog X.w HZ s1 Q E) s1 := by
    refine PySem.W.kla_callFunE hr.depth of1 rfl L.co L.gen rfl ⟨c', oc, vs, t, rfl, hoc, hdc, hvc⟩ ?_
    rw [hbind]
    refine wpAny_pure (wpAny_newFunctionEnv (fun y hy => (L.own y hy).2) (fun y hy => absurd hy (by simp)) (fun h₁ hns hsb => ⟨I1.nolimit.fresh _ hsb, ?_⟩) L.kind)
    show codeAny _ _ (.expr body (lamEnv X scope s1.heap.objs.size f c')) _ _
    have kp : ∀ b o, s1.heap.get? b = some o → h₁.get? b = some o := fun b o e => hsb.extBut b o (Nat.ne_of_lt (Heap.lt_size e)) (Heap.get?_push_of_some _ e)
    have J : Inv (lamCx X (X.A.deeper (envOfC qg sg s.heap.objs.size g cdg)) (envOfC qg sg s.heap.objs.size g cdg :: X.stack) s1 HZ E scope f c') [] σ HZ { s1 with heap := h₁, toks := s1.toks + ([] : List (Str × Value)).length } :=
      lam_start2 I L I1.env0 hr.hd un hns kp
    refine PySem.W.kla_codeExpr (wpAny_mono ((hbody _ _ s1 HZ (hr.deeper _)).run [] _ _ HZ Q J ht) (fun v s' hq => ?_) fun e s' hq => hq)
    obtain ⟨w', H', J', rv, q⟩ := hq
    exact ⟨w', H', J'.os, J'.bare, J'.base, J'.hok, rv, q⟩
  refine wpAny_call (codeAny_mono rc fun r s' hq => ?_)
  cases r with
  | error e => exact tk e s' (XE.of_call I1 hW hq)
  | ok fl =>
    cases fl with
    | ret u => exact I1.after hq
    | next => exact False.elim hq
    | brk => exact False.elim hq
    | cont => exact False.elim hq
theorem actW {CXg : CXT} {Eg : XK} {Ng : List Str} {qg : Str} {sg : Scope} {g f c' tp : Addr} {tk0 : Tok} {iv : Int} {cdg pm ctv : Value} {params : Arguments} {body : Expr} {scope : Scope} {p : Str} {k i : Nat} {a : Str} {pn : List (Addr × Obj)} {xe : Value → Shared → Prop} {W : WX} {E : XK} {tb : TE} {p1 p2 : Pos}
    (I : Inv X pins σ H s) (L : LamSD X.env.scope scope p) (hpN : p ∉ X.N) (hf : s.heap.get? f = some (objD (X.env.qual ++ "<lambda>") params body scope (cloFrom X.env.cells scope.names []) (.ref tp) pm c' ctv)) (hfn : H f = none) (hfr : f ∉ frs X.stack)
    (htp : s.heap.get? tp = some (tupD iv tk0)) (htn : H tp = none) (htr : tp ∉ frs X.stack)
    (hbind : ∀ (v : Value), ∃ k, bindArgs (fnD (X.env.qual ++ "<lambda>") params body scope (cloFrom X.env.cells scope.names []) (.ref tp) pm (.ref c') ctv) ⟨[], []⟩ = seqItems? (.ref tp) >>= k ∧ k (some #[v]) = pure [(p, v)])
    (tk : Takes ((cxOf CXg X.prog X.w X.K X.mg X.base Ng qg sg g cdg X.A X.stack s H Eg).tr pn xe) W) (hr : Room (k + 1) (X.A.deeper (envOfC qg sg s.heap.objs.size g cdg)))
    (hbody : ∀ (A : Around) (outer : List Env) (s : Shared) (H : Hp), Room k (A.deeper (lamEnv X scope s.heap.objs.size f c')) → PE (lamCx X A outer s H E scope f c') body tb)
    (hN : Ng[i]? = some a) (hv : Vis sg a) (hd : (a == ("__debug__" : Str)) = false := by decide) (hcd : (a == ("__classdict__" : Str)) = false := by decide) :
    PE ((cxOf CXg X.prog X.w X.K X.mg X.base Ng qg sg g cdg X.A X.stack s H Eg).tr pn xe) (.Call (.Name a p1) [] [] p2)
      (fun σZ HZ Q => σZ[i]? = some (some (.ref f)) ∧ HZ c' = some (CodeO c' (X.env.qual ++ "<lambda>")) ∧ (∀ cls d H', E cls d H' → W cls d σZ H') ∧ tb σ HZ Q) := by
  refine ⟨fun pinsZ sZ σZ HZ Q IZ h => ?_⟩
  obtain ⟨hs, hc, hW, ht⟩ := h
  refine wpAny_Call_Name_kw (thn ((pe_var (pos := p1) (i := i) hN hv hd hcd).run pinsZ sZ σZ HZ (fun v H1 => v = .ref f ∧ H1 = HZ) IZ ⟨.ref f, hs, rfl, rfl⟩) fun u s1 ⟨v, H1, I1, r1, q1⟩ => ?_)
  obtain ⟨ev, eH⟩ := q1
  subst ev
  rw [eH] at I1
  obtain rfl : u = Value.ref f := r1
  have of1 : s1.heap.get? f = some (objD (X.env.qual ++ "<lambda>") params body scope (cloFrom X.env.cells scope.names []) (.ref tp) pm c' ctv) := I1.base.keep f _ hf hfn hfr (fun z => nomatch (show f ∈ ([] : List Addr) from z))
  have ot1 : s1.heap.get? tp = some (tupD iv tk0) := I1.base.keep tp _ htp htn htr (fun z => nomatch (show tp ∈ ([] : List Addr) from z))
  refine PySem.W.callWith_F0 ⟨_, _, _, _, of1⟩ ?_
  have un : Un (frs X.stack) [] H HZ s.heap s1.heap := I1.base
  obtain ⟨⟨oc, vs, t, hoc, hdc, hvc⟩, _, _⟩ := I1.hok c' _ hc
  have rc : codeAny (model X.prog X.w) (X.A.deeper (envOfC qg sg s.heap.objs.size g cdg)) (.call (.ref f) ⟨[], []⟩) (CR (L2.CX X.prog X.w) (envOfC qg sg s.heap.objs.size g cdg :: X.stack) X.prog X.w HZ s1 Q E) s1 := by
    refine PySem.W.kla_callFunE hr.depth of1 rfl L.co L.gen rfl ⟨c', oc, vs, t, rfl, hoc, hdc, hvc⟩ ?_
    obtain ⟨kk, b1, b2⟩ := hbind (.int iv tk0)
    rw [b1]
    refine wpAny_bind (wpAny_seqItems ot1 rfl ?_)
    rw [b2]
    refine wpAny_pure (wpAny_newFunctionEnv (fun y hy => (L.own y hy).2) (fun y hy => ?_) (fun h₁ hns hsb => ⟨I1.nolimit.fresh _ hsb, ?_⟩) L.kind)
    · have ey : y = (p, Value.int iv tk0) := List.mem_singleton.mp hy
      rw [ey]
      exact L.par
    show codeAny _ _ (.expr body (lamEnv X scope s1.heap.objs.size f c')) _ _
    have kp : ∀ b o, s1.heap.get? b = some o → h₁.get? b = some o := fun b o e => hsb.extBut b o (Nat.ne_of_lt (Heap.lt_size e)) (Heap.get?_push_of_some _ e)
    have J : Inv (lamCx X (X.A.deeper (envOfC qg sg s.heap.objs.size g cdg)) (envOfC qg sg s.heap.objs.size g cdg :: X.stack) s1 HZ E scope f c') [] σ HZ { s1 with heap := h₁, toks := s1.toks + ([(p, Value.int iv tk0)] : List (Str × Value)).length } :=
      startD I L hpN I1.env0 hr.hd un hns kp
    refine PySem.W.kla_codeExpr (wpAny_mono ((hbody _ _ s1 HZ (hr.deeper _)).run [] _ _ HZ Q J ht) (fun v s' hq => ?_) fun e s' hq => hq)
    obtain ⟨w', H', J', rv, q⟩ := hq
    exact ⟨w', H', J'.os, J'.bare, J'.base, J'.hok, rv, q⟩
  refine wpAny_call (codeAny_mono rc fun r s' hq => ?_)
  cases r with
  | error e => exact tk e s' (XE.of_call I1 hW hq)
  | ok fl =>
    cases fl with
    | ret u => exact I1.after hq
    | next => exact False.elim hq
    | brk => exact False.elim hq
    | cont => exact False.elim hq
end
/-- the def that calls what it got; W, its wish, is asked for at the slots of the call alone -/
def GivesW (X : Cx) (Ng : List Str) (x : Str) (sg : Scope) (g : Addr) (cdg : Value) (bg : List Stmt) (a : Str) (q : Str) (TT : (XK → Hp → VK → Prop) → Hp → VK → Prop) : Prop :=
  ∀ (f c' : Addr) (s : Shared) (H : Hp) (Q : VK) (tl : XK → Hp → VK → Prop),
    (∀ (W : WX) (pn : List (Addr × Obj)) (xe : Value → Shared → Prop) (E : XK) (p1 p2 : Pos), Takes ((cxOf C8.CX0 X.prog X.w X.K X.mg X.base Ng x sg g cdg X.A X.stack s H C8.E0).tr pn xe) W →
      PE ((cxOf C8.CX0 X.prog X.w X.K X.mg X.base Ng x sg g cdg X.A X.stack s H C8.E0).tr pn xe) (.Call (.Name a p1) [] [] p2) (fun σZ HZ Q => σZ[0]? = some (some (.ref f)) ∧ HZ c' = some (CodeO c' q) ∧ (∀ cls d H', E cls d H' → W cls d σZ H') ∧ tl E HZ Q)) →
    H c' = some (CodeO c' q) → TT tl H Q →
    ∃ t, PSs (cxOf C8.CX0 X.prog X.w X.K X.mg X.base Ng x sg g cdg X.A X.stack s H C8.E0).nox bg t ∧ t { nx := fun _ H' => Q .non H', rt := Q } (L2.start Ng [.ref f]) H
section
variable {X : Cx}
theorem pe_lamN {T : List (Addr × Str)} {TT : (XK → Hp → VK → Prop) → Hp → VK → Prop} {x a : Str} {g c P : Addr} {k : Nat} {pg : Arguments} {bg : List Stmt} {sg : Scope} {dV kV doc pm cdv ct oc : Value} {an od : Option Addr} {osl : Array (Option Value)} {Ng : List Str}
    {params : Arguments} {body : Expr} {scope : Scope} {t : XK → TE} {p lpos pos : Pos} (hg : Gl X x) (hm : X.mg x = some (.ref g)) (hk : PySem.W.keepIn X.K (.ref g) = true)
    (lk : X.K.lookup g = some ⟨oc, od, .func (PySem.W.fnOf x x pg bg sg dV kV doc pm an cdv ct), osl⟩) (hcg : PySem.W.codeIn X.K cdv x = true) (hb : L2.Binds X.K (PySem.W.fnOf x x pg bg sg dV kV doc pm an cdv ct) [a] []) (Sg : FnScope Ng [a] sg) (hNg : Ng[0]? = some a) (hva : Vis sg a)
    (hG : GivesW X Ng x sg g cdv bg a (X.env.qual ++ "<lambda>") TT)
    (TB : TabB X.base X.mg c P) (hcode : X.env.code = .ref c) (hmT : (P, X.env.qual ++ "<lambda>") ∈ T) (hu : ∀ p ∈ T, p.1 = P → p.2 = X.env.qual ++ "<lambda>") (hr : Room (k + 2) X.A) (L : LamS X.env.scope scope) (hdef : defaultsOf params X.env = ([], []))
    (hbind : ∀ (q : Str) (cl : List (Str × Addr)) (pm cv ctv : Value), bindArgs (PySem.W.kla_fn "<lambda>" q params body scope cl pm cv ctv) ⟨[], []⟩ = pure [])
    (hbody : ∀ (A : Around) (outer : List Env) (s : Shared) (H : Hp) (E : XK) (f c' : Addr), Room k (A.deeper (lamEnv X scope s.heap.objs.size f c')) → PE (lamCx X A outer s H E scope f c') body (t E))
    (hdb : (x == ("__debug__" : Str)) = false := by decide) (hd : (a == ("__debug__" : Str)) = false := by decide) (hcd : (a == ("__classdict__" : Str)) = false := by decide) :
    PE X (.Call (.Name x p) [.Lambda params body scope lpos] [] pos) (tLam T TT t) := by
  refine ⟨fun pins s σ H Q I h => ?_⟩
  obtain ⟨hT, h⟩ := h
  refine wpAny_Call_Name_kw (ld_glob I hg hm ?_ hdb)
  refine PySem.W.callWith_K (h₀ := X.base) I.ok.mod.kin hk ?_ (by rfl) (by rfl)
  show wpAny _ _ (spliced ((false, eval (.Lambda params body scope lpos) X.env) :: backTo pos (starEach [] X.env))) _ _ s
  refine Calls.spliced_cons (lam_make2 I TB hcode hmT hu hT hdef (L.has I.ok) fun f c' pm' ctv H1 s' I1 eN T1 hf hfn hfr hco => ?_)
  refine Calls.spliced_nil ⟨I1.kIn, ?_⟩
  have rc : codeAny (model X.prog X.w) X.A (.call (.ref g) ⟨[.ref f], []⟩) (CR C8.CX0 X.stack X.prog X.w H1 s' Q C8.E0) s' := by
    refine run_ofS (N := Ng) (ps := [a]) (us := [.ref f]) (vs := [.ref f]) lk hcg Sg hr I1.env0 (hb s' [.ref f] I1.kIn rfl) (.cons rfl .nil) rfl fun hr' => ?_
    obtain ⟨t', ht', hq'⟩ := hG f c' s' H1 Q (fun E H' Q' => t E σ H' Q') (fun W pn xe E p1 p2 tk => actN (i := 0) I1 L hf hfn hfr (hbind _ _ _ _ _) tk hr' (fun A outer s H hr2 => hbody A outer s H E f c' hr2) hNg hva hd hcd) hco (h H1 eN T1)
    exact ⟨t', ht'.nox, hq'⟩
  refine wpAny_call (codeAny_mono rc fun r s2 hq => ?_)
  cases r with
  | error e => exact (show False from hq).elim
  | ok fl =>
    cases fl with
    | ret u => exact I1.after hq
    | next => exact False.elim hq
    | brk => exact False.elim hq
    | cont => exact False.elim hq
theorem pe_lamW {T : List (Addr × Str)} {TT : (XK → Hp → VK → Prop) → Hp → VK → Prop} {x a kp : Str} {g c P : Addr} {k : Nat} {pg : Arguments} {bg : List Stmt} {sg : Scope} {dV kV doc pm cdv ct oc : Value} {an od : Option Addr} {osl : Array (Option Value)} {Ng : List Str}
    {params : Arguments} {body : Expr} {scope : Scope} {t : XK → TE} {p lpos pos : Pos} {iv : Int} {ij : Nat} {ip : Pos} (hg : Gl X x) (hm : X.mg x = some (.ref g)) (hk : PySem.W.keepIn X.K (.ref g) = true)
    (lk : X.K.lookup g = some ⟨oc, od, .func (PySem.W.fnOf x x pg bg sg dV kV doc pm an cdv ct), osl⟩) (hcg : PySem.W.codeIn X.K cdv x = true) (hb : L2.Binds X.K (PySem.W.fnOf x x pg bg sg dV kV doc pm an cdv ct) [a] []) (Sg : FnScope Ng [a] sg) (hNg : Ng[0]? = some a) (hva : Vis sg a)
    (hG : GivesW X Ng x sg g cdv bg a (X.env.qual ++ "<lambda>") TT)
    (TB : TabB X.base X.mg c P) (hcode : X.env.code = .ref c) (hmT : (P, X.env.qual ++ "<lambda>") ∈ T) (hu : ∀ p ∈ T, p.1 = P → p.2 = X.env.qual ++ "<lambda>") (hr : Room (k + 2) X.A) (L : LamSD X.env.scope scope kp) (hpN : kp ∉ X.N)
    (hdef : defaultsOf params X.env = ([eval (.Constant (.int iv) ij ip) X.env], [])) (hkw : params.kwonlyargs = [])
    (hbind : ∀ (q : Str) (cl : List (Str × Addr)) (tp : Addr) (pm cv ctv v : Value), ∃ k, bindArgs (fnD q params body scope cl (.ref tp) pm cv ctv) ⟨[], []⟩ = seqItems? (.ref tp) >>= k ∧ k (some #[v]) = pure [(kp, v)])
    (hbody : ∀ (A : Around) (outer : List Env) (s : Shared) (H : Hp) (E : XK) (f c' : Addr), Room k (A.deeper (lamEnv X scope s.heap.objs.size f c')) → PE (lamCx X A outer s H E scope f c') body (t E))
    (hdb : (x == ("__debug__" : Str)) = false := by decide) (hd : (a == ("__debug__" : Str)) = false := by decide) (hcd : (a == ("__classdict__" : Str)) = false := by decide) :
    PE X (.Call (.Name x p) [.Lambda params body scope lpos] [] pos) (tLam T TT t) := by
  refine ⟨fun pins s σ H Q I h => ?_⟩
  obtain ⟨hT, h⟩ := h
  refine wpAny_Call_Name_kw (ld_glob I hg hm ?_ hdb)
  refine PySem.W.callWith_K (h₀ := X.base) I.ok.mod.kin hk ?_ (by rfl) (by rfl)
  show wpAny _ _ (spliced ((false, eval (.Lambda params body scope lpos) X.env) :: backTo pos (starEach [] X.env))) _ _ s
  refine Calls.spliced_cons (makeD I TB hcode hmT hu hT hdef hkw (L.has I.ok) fun f c' tp tk0 pm' ctv H1 s' I1 eN T1 hf hfn hfr htp htn htr hco => ?_)
  refine Calls.spliced_nil ⟨I1.kIn, ?_⟩
  have rc : codeAny (model X.prog X.w) X.A (.call (.ref g) ⟨[.ref f], []⟩) (CR C8.CX0 X.stack X.prog X.w H1 s' Q C8.E0) s' := by
    refine run_ofS (N := Ng) (ps := [a]) (us := [.ref f]) (vs := [.ref f]) lk hcg Sg hr I1.env0 (hb s' [.ref f] I1.kIn rfl) (.cons rfl .nil) rfl fun hr' => ?_
    obtain ⟨t', ht', hq'⟩ := hG f c' s' H1 Q (fun E H' Q' => t E σ H' Q') (fun W pn xe E p1 p2 tk => actW (i := 0) I1 L hpN hf hfn hfr htp htn htr (fun v => hbind _ _ _ _ _ _ v) tk hr' (fun A outer s H hr2 => hbody A outer s H E f c' hr2) hNg hva hd hcd) hco (h H1 eN T1)
    exact ⟨t', ht'.nox, hq'⟩
  refine wpAny_call (codeAny_mono rc fun r s2 hq => ?_)
  cases r with
  | error e => exact (show False from hq).elim
  | ok fl =>
    cases fl with
    | ret u => exact I1.after hq
    | next => exact False.elim hq
    | brk => exact False.elim hq
    | cont => exact False.elim hq
end
end DL

set_option Elab.async false
set_option linter.all false
set_option maxRecDepth 100000
set_option maxHeartbeats 4000000
/-! a def whose code object is known; tables kept -/
namespace DL
open PySem PySem.Spec PyProof.Rows L2
theorem FunD_okC {P : Program} {w : World} {K : PySem.W.Frag} {mg : Str → Option Value} {base : Heap} {CX : CXT} {x qual : Str} {params : Arguments} {body : List Stmt} {scope : Scope} {dvs : List V} {kws : List (Str × V)} {f : Addr} {fd : FuncData} {N ps : List Str} {k : Nat} {sp : Sp} {c : Addr}
    (F : FunD K x qual params body scope dvs kws f fd) (S : FnScope N ps scope) (hc : fd.code = .ref c) (len : ∀ vs H Q E, sp vs H Q E → vs.length = ps.length)
    (hbody : ∀ (A : Around) (outer : List Env) (s : Shared) (H : Hp) (vs : List V) (Q : VK) (E : XK), Room k (A.deeper (envOfC qual scope s.heap.objs.size f (.ref c))) → sp vs H Q E →
      ∃ t, PSs (cxOf CX P w K mg base N qual scope f (.ref c) A outer s H E) body t ∧ t { nx := fun _ H' => Q .non H', rt := Q } (start N vs) H) : FnOk P w K mg base CX (k + 1) f fd ps sp := by
  obtain ⟨oc, od, dV, kV, doc, pm, an, cdv, ct, osl, rfl, lk, hcd, _, _⟩ := F.ex
  cases (show cdv = .ref c from hc)
  exact fn_of lk hcd S len fun A outer s H vs Q E hr hsp => hbody A outer s H vs Q E hr hsp
abbrev ExN := LamX.ExtN
theorem ExN.of {H H' : Hp} (e : Ex H H') : ExN H H' := fun b o h _ => e b o h
theorem ExN.tr {H H1 H2 : Hp} (a : ExN H H1) (b : ExN H1 H2) : ExN H H2 := LamX.ExtN.trans a b
theorem ExN.kp {H H' : Hp} {N : Addr → Prop} (e : ExN H H') : Kp N H H' := fun b o h _ n => e b o h n
end DL

set_option Elab.async false
set_option linter.all false
set_option maxRecDepth 100000
set_option maxHeartbeats 4000000
/-! data written down, and drawn -/
namespace DL
open PySem PySem.Spec PyProof.Rows L2
section
variable {K : PySem.W.Frag} {N : Addr → Prop} {σ : L2.St} {H : Hp}
/-- te makes the datum d, new -/
def VE (K : PySem.W.Frag) (N : Addr → Prop) (te : TE) (σ : L2.St) (H : Hp) (d : PyData) : Prop := ∀ H1, Ex H H1 → ∀ Q : VK, (∀ v H', Ex H1 H' → Rp K N H' v d → Q v H') → te σ H1 Q
def VR (K : PySem.W.Frag) (N : Addr → Prop) (ta : TA) (σ : L2.St) (H : Hp) (ds : List PyData) : Prop := ∀ H1, Ex H H1 → ∀ Q : List V → Hp → Prop, (∀ vs H', Ex H1 H' → RpA K N H' vs ds → vs.length = ds.length → Q vs H') → ta σ H1 Q
theorem ve_non : VE K N (tC .non) σ H .none := fun H1 _ Q q => q _ _ (ex_refl H1) .non
theorem ve_int (i : Int) : VE K N (tC (.int i)) σ H (.int i) := fun H1 _ Q q => q _ _ (ex_refl H1) (.int i)
theorem ve_bl (b : Bool) : VE K N (tC (.bl b)) σ H (.bool b) := fun H1 _ Q q => q _ _ (ex_refl H1) (.bl b)
theorem ve_str (x : Str) : VE K N (tC (.str x)) σ H (.str x) := fun H1 _ Q q => q _ _ (ex_refl H1) (.str x)
theorem ve_neg (i : Int) : VE K N (tUn (rU fun i => .int (-i)) (tC (.int i))) σ H (.int (-i)) := fun H1 _ Q q => vl_neg val_c _ (q _ _ (ex_refl H1) (.int (-i)))
theorem vr_nil : VR K N tNil σ H [] := fun H1 _ Q q => q _ _ (ex_refl H1) .nil rfl
theorem RpA.ex {vs : List V} {ds : List PyData} {H' : Hp} (h : RpA K N H vs ds) (e : Ex H H') : RpA K N H' vs ds := h.kp (Kp.of e)
theorem vr_cons {te : TE} {ta : TA} {d : PyData} {ds : List PyData} (h : VE K N te σ H d) (r : VR K N ta σ H ds) : VR K N (tCons te ta) σ H (d :: ds) := fun H1 e Q q =>
  h H1 e _ fun v H2 e2 rv => r H2 (e.tr e2) _ fun vs H3 e3 rs hl => q _ _ (e2.tr e3) (.cons (rv.ex e3) rs) (by rw [List.length_cons, List.length_cons, hl])
theorem ve_tup {ta : TA} {ds : List PyData} (hN : ∀ a, N a → H a ≠ none) (h : VR K N ta σ H ds) (hl : ds.length ≤ 1000) : VE K N (tTup ta) σ H (.tuple ds) := fun H1 e Q q =>
  h H1 e _ fun vs H2 e2 rs hn => ⟨by rw [hn]; exact Nat.le_trans hl (by decide), fun p hp => q _ _ (e2.tr (ex_new hp)) (.tup (SqT.of upd_same) (fun z => hN p z ((e.tr e2).back hp)) (rs.ex (ex_new hp)))⟩
theorem ve_lst {ta : TA} {ds : List PyData} (hN : ∀ a, N a → H a ≠ none) (h : VR K N ta σ H ds) (hl : ds.length ≤ 1000) : VE K N (tLst ta) σ H (.list ds) := fun H1 e Q q =>
  h H1 e _ fun vs H2 e2 rs hn => ⟨by rw [hn]; exact Nat.le_trans hl (by decide), fun p hp => q _ _ (e2.tr (ex_new hp)) (.lst (SqL.of upd_same) (fun z => hN p z ((e.tr e2).back hp)) (rs.ex (ex_new hp)))⟩
theorem ve_dic (hN : ∀ a, N a → H a ≠ none) : VE K N tDNewK σ H (.dict []) := fun H1 e Q q p hp => q _ _ (ex_new hp) (.dic upd_same fun z => hN p z (e.back hp))
end
theorem Pen.exN {H H' : Hp} {pn c0 : Addr} {cells : List Int} {a l : Int} (p : Pen H pn c0 cells a l) (e : ExN H H') : Pen H' pn c0 cells a l := ⟨e _ _ p.p (fun ps z => by cases z), e _ _ p.c (fun ps z => by cases z), p.a0, p.a1, p.l0, p.len⟩
theorem Tabs_exB {T : List (Addr × Str)} {H H' : Hp} {pn : Addr} {xs : List V} (t : LamX.Tabs T H) (hp : H pn = some (.lst xs)) (e : ExB pn H H') : LamX.Tabs T H' := fun p hm => by
  obtain ⟨ps, h1, h2, h3⟩ := t p hm
  have n1 : p.1 ≠ pn := fun z => by rw [z, hp] at h1; cases h1
  refine ⟨ps, e _ _ n1 h1, h2, fun pos cv hc => ?_⟩
  obtain ⟨c, e1, e2⟩ := h3 pos cv hc
  have n2 : c ≠ pn := fun z => by rw [z, hp] at e2; cases e2
  exact ⟨c, e1, e _ _ n2 e2⟩
end DL

set_option Elab.async false
set_option linter.all false
set_option maxRecDepth 100000
set_option maxHeartbeats 4000000
/-! own error classes, told by one Bool of what the head holds -/
namespace DL
open PySem PySem.Spec PyProof.Rows L2
def clsB (K : PySem.W.Frag) (C : Addr) : Bool := match K.lookup C with
  | some ⟨.type "type", _, .cls cd, sl⟩ => (match cd.mro, sl.toList with
    | .ref C' :: bm, [_, _, _, _, some (.builtin n), _] => C' == C && n == "ValueError.__new__" && !cd.hasDel && cd.hasDict && PySem.HandSPX.refsVE bm
    | _, _ => false)
  | _ => false
theorem clsB_ok {K : PySem.W.Frag} {C : Addr} (q : clsB K C = true) : ∃ nm qn N bs bm sn sub ab col dd k0 k1 k2 k3 k5, K.lookup C = some (excClassObj nm qn C N bs bm true sn sub ab col dd k0 k1 k2 k3 k5 "ValueError.__new__") ∧ PySem.HandSPX.refsVE bm = true := by
  unfold clsB at q
  split at q
  · rename_i dd cd sl ho
    split at q
    · rename_i C' bm k0 k1 k2 k3 n k5 hm hs
      simp only [Bool.and_eq_true, beq_iff_eq, Bool.not_eq_true'] at q
      obtain ⟨⟨⟨⟨rfl, rfl⟩, hdel⟩, hdct⟩, ht⟩ := q
      obtain ⟨nm, bs, mro, ns, qn, hd, sn, sub, ab, col, del⟩ := cd
      dsimp only at hm hdel hdct
      subst hm hdel hdct
      have hsl : sl = #[k0, k1, k2, k3, some (.builtin "ValueError.__new__"), k5] := by
        obtain ⟨l⟩ := sl
        simp only at hs
        rw [hs]
      subst hsl
      exact ⟨nm, qn, ns, bs, bm, sn, sub, ab, col, dd, k0, k1, k2, k3, k5, ho, ht⟩
    · cases q
  · cases q
def oexB (K : PySem.W.Frag) (C : Addr) : Bool := clsB K C && (decide (PySem.W.findIn K (.ref C) "__setattr__" = some (some (.builtin "object.__setattr__"))) && (decide (PySem.W.subIn K (.ref C) (.type "BaseException") = some true) && (decide (PySem.W.typeIn K (.ref C) = some (.type "type")) && PySem.W.keepIn K (.ref C))))
theorem oexB_ok {K : PySem.W.Frag} {C : Addr} (q : oexB K C = true) : OexC K C := by
  obtain ⟨q1, q⟩ := He.ba q
  obtain ⟨q2, q⟩ := He.ba q
  obtain ⟨q3, q⟩ := He.ba q
  obtain ⟨q4, q5⟩ := He.ba q
  exact ⟨clsB_ok q1, of_decide_eq_true q2, of_decide_eq_true q3, of_decide_eq_true q4, q5⟩
def xcB (K : PySem.W.Frag) (D : Addr) : Bool := (PySem.W.clsIn K D).isSome && (decide (PySem.W.findIn K (.ref D) "__getattribute__" = some (some (.builtin "BaseException.__getattribute__"))) && (decide (PySem.W.findIn K (.ref D) "__getattr__" = some none) &&
  (decide (PySem.W.subIn K (.ref D) (.type "BaseException") = some true) && (PySem.W.hasDictIn K D && (decide (PySem.W.findIn K (.ref D) "__class__" = some (some (.builtin "object.__class__"))) &&
  (decide (PySem.W.specialIn K (.builtin "object.__class__") "__get__" = some (some (.builtin "getset_descriptor.__get__"))) && (decide (PySem.W.takesIn K (.builtin "object.__class__") = some true) && decide (PySem.W.mroIn K D (.type "object") = some true))))))))
theorem xcB_ok {K : PySem.W.Frag} {D : Addr} (q : xcB K D = true) : XcC K D := by
  obtain ⟨q1, q⟩ := He.ba q
  obtain ⟨q2, q⟩ := He.ba q
  obtain ⟨q3, q⟩ := He.ba q
  obtain ⟨q4, q⟩ := He.ba q
  obtain ⟨q5, q⟩ := He.ba q
  obtain ⟨q6, q⟩ := He.ba q
  obtain ⟨q7, q⟩ := He.ba q
  obtain ⟨q8, q9⟩ := He.ba q
  exact ⟨q1, of_decide_eq_true q2, of_decide_eq_true q3, of_decide_eq_true q4, q5, of_decide_eq_true q6, of_decide_eq_true q7, of_decide_eq_true q8, of_decide_eq_true q9⟩
/-- an own error's facts: its class, its field f, its __init__ -/
def errB (K : PySem.W.Frag) (x f : Str) : Bool := oexB K (He.ga K x) && (xcB K (He.ga K x) && (decide (PySem.W.findIn K (.ref (He.ga K x)) f = some none) &&
  (decide (PySem.W.findIn K (.ref (He.ga K x)) "__init__" = some (some (.ref (He.ma K (He.ga K x) "__init__")))) && decide (PySem.W.typeIn K (.ref (He.ma K (He.ga K x) "__init__")) = some (.type "function")))))
end DL

set_option Elab.async false
set_option linter.all false
set_option maxRecDepth 100000
set_option maxHeartbeats 4000000
/-! a def that is entered with no repr under way: what repr of data asks -/
namespace DL
open PySem PySem.Spec PyProof.Rows L2 LamX
structure FnG (P : Program) (w : World) (K : PySem.W.Frag) (mg : Str → Option Value) (base : Heap) (CX : CXT) (k : Nat) (f : Addr) (fd : FuncData) (ps : List Str) (sp : Sp) : Prop where
  len : ∀ vs H Q E, sp vs H Q E → vs.length = ps.length
  run : ∀ (A : Around) (outer : List Env) (s : Shared) (H : Hp) (args : Args) (us : List Value) (vs : List V) (Q : VK) (E : XK), A.guards = some [] → Room k A → Env0 P w K mg base A outer s H → BindsTo s fd args (ps.zip us) → Vals vs us → sp vs H Q E →
    codeAny (model P w) A (.call (.ref f) args) (CR CX outer P w H s Q E) s
theorem FnG.of {P : Program} {w : World} {K : PySem.W.Frag} {mg : Str → Option Value} {base : Heap} {CX : CXT} {k : Nat} {f : Addr} {fd : FuncData} {ps : List Str} {sp : Sp} (F : FnOk P w K mg base CX k f fd ps sp) : FnG P w K mg base CX k f fd ps sp :=
  ⟨F.len, fun A outer s H args us vs Q E _ => F.run A outer s H args us vs Q E⟩
theorem fn_ofG {CX : CXT} {P : Program} {w : World} {K : PySem.W.Frag} {mg : Str → Option Value} {base : Heap} {k : Nat} {f : Addr} {name qual : Str} {params : Arguments} {body : List Stmt} {scope : Scope} {dV kV doc pm cdv ct oc : Value} {an od : Option Addr}
    {osl : Array (Option Value)} {N ps : List Str} {sp : Sp} (lk : K.lookup f = some ⟨oc, od, .func (PySem.W.fnOf name qual params body scope dV kV doc pm an cdv ct), osl⟩) (hcd : PySem.W.codeIn K cdv qual = true) (S : FnScope N ps scope)
    (len : ∀ vs H Q E, sp vs H Q E → vs.length = ps.length)
    (hbody : ∀ (A : Around) (outer : List Env) (s : Shared) (H : Hp) (vs : List V) (Q : VK) (E : XK), A.guards = some [] → Room k (A.deeper (envOfC qual scope s.heap.objs.size f cdv)) → sp vs H Q E →
      ∃ t, PSs (cxOf CX P w K mg base N qual scope f cdv A outer s H E) body t ∧ t { nx := fun _ H' => Q .non H', rt := Q } (start N vs) H) :
    FnG P w K mg base CX (k + 1) f (PySem.W.fnOf name qual params body scope dV kV doc pm an cdv ct) ps sp := by
  refine ⟨len, fun A outer s H args us vs Q E hgu hr e0 hb r hsp => ?_⟩
  have hl := len _ _ _ _ hsp
  have KX : K.In s.heap := e0.mod.kin.keeps fun b o e => (e0.bs b o e).1
  have lim : s.heap.NoLimit := e0.mod.nolimit.keeps fun b o e => (e0.bs b o e).1
  have hkind : ∀ y ∈ ps.zip us, scope.names.lookup y.1 = some .local ∨ (scope.names.lookup y.1 = some .cell ∧ ((cellsFrom (s.heap.objs.size + 1) scope.names []).lookup y.1).isSome = true) := fun ⟨n, v⟩ hy => by
    rcases S.par n (List.of_mem_zip hy).1 with q | q
    · exact .inl q
    · exact .inr ⟨q, PySem.W.cellsFrom_some _ _ _ (.inl q)⟩
  refine codeAny_call_function hr.depth (KX _ _ lk) rfl S.co S.gen rfl (PySem.W.codeRec_of KX hcd) (hb _ _ _ _ ?_)
  refine wpAny_newFunctionEnv_cells S.kind hkind fun env he s1 x => ?_
  subst he
  refine ⟨lim.keeps x.toInCall.keep, codeAny_func ?_⟩
  obtain ⟨t, ht, hq⟩ := hbody A outer s H vs Q E hgu (hr.deeper _) hsp
  have I : Inv (cxOf CX P w K mg base N qual scope f cdv A outer s H E) [] (start N vs) H s1 := inv_start S hr.hd e0 hl r x
  refine wpAny_mono (ht.run [] s1 (start N vs) H _ I hq) (fun fl s' hs => ?_) fun e s' hs => hs
  have fin : ∀ {σ' : L2.St} {H' : Hp} {v : V} {u : Value}, Inv (cxOf CX P w K mg base N qual scope f cdv A outer s H E) [] σ' H' s' → RelV v u → Q v H' → CE outer P w H s Q u s' :=
    fun {σ' H' v u} J rv q => ⟨v, H', J.os, J.bare, J.base, J.hok, rv, q⟩
  cases fl with
  | ret u =>
    obtain ⟨v, σ', H', J, rv, q⟩ := hs
    exact fin J rv q
  | next =>
    obtain ⟨σ', H', J, q⟩ := hs
    exact fin (v := V.non) (u := Value.none) J rfl q
  | brk =>
    obtain ⟨_, _, _, q⟩ := hs
    exact False.elim q
  | cont =>
    obtain ⟨_, _, _, q⟩ := hs
    exact False.elim q
section
variable {X : Cx} {CX : CXT} {k : Nat} {f : Addr} {fd : FuncData} {ps : List Str} {sp : Sp} {ds : List Value} {dvs : List V} {E : XK} {x : Str} {p pos : Pos} {e : Expr} {es : List Expr} {t : TA}
theorem run_fnG {pins : List (Addr × Obj)} {σ : L2.St} {H : Hp} {s : Shared} {Q : VK} {us : List Value} {vs : List V} (F : FnG X.prog X.w X.K X.mg X.base CX k f fd ps sp) (hgu : X.A.guards = some []) (hr : Room k X.A) (hb : Binds X.K fd ps ds) (hd : Vals dvs ds) (hx : Passes CX X E)
    (I : Inv X pins σ H s) (r : Vals vs us) (h : sp (vs ++ dvs) H Q E) : wpAny (model X.prog X.w) X.A (call (.ref f) us) (EP X pins σ Q) X.xe s := by
  have r2 : Vals (vs ++ dvs) (us ++ ds) := r.append hd
  have hl : (us ++ ds).length = ps.length := by rw [← r2.length]; exact F.len _ _ _ _ h
  refine wpAny_call (codeAny_mono (F.run X.A X.stack s H ⟨us, []⟩ (us ++ ds) (vs ++ dvs) Q E hgu hr I.env0 (hb s us I.kIn hl) r2 h) fun r s' hq => ?_)
  cases r with
  | error e => exact hx pins σ H s e s' I hq
  | ok fl =>
    cases fl with
    | ret u => exact I.after hq
    | next => exact False.elim hq
    | brk => exact False.elim hq
    | cont => exact False.elim hq

theorem pe_callG (F : FnG X.prog X.w X.K X.mg X.base CX k f fd ps sp) (hgu : X.A.guards = some []) (hr : Room k X.A) (hg : Gl X x) (hm : X.mg x = some (.ref f)) (hk : PySem.W.keepIn X.K (.ref f) = true) (hb : Binds X.K fd ps ds) (hd : Vals dvs ds) (hx : Passes CX X E)
    (ha : PA X (e :: es) t) (hdb : (x == ("__debug__" : Str)) = false := by decide) (he : starEach (e :: es) X.env = (false, eval e X.env) :: starEach es X.env := by rfl) (hpl : (backTo pos (starEach es X.env)).any (·.1) = false := by rfl) :
    PE X (.Call (.Name x p) (e :: es) [] pos) (tCall sp dvs E t) := by
  refine ⟨fun pins s σ H Q I h => ?_⟩
  refine wpAny_Call_Name_kw (ld_glob I hg hm ?_ hdb)
  refine PySem.W.callWith_K (h₀ := X.base) I.ok.mod.kin hk (thn (ha.run pos pins s σ H _ I h) fun us s1 ⟨vs, H1, I1, r, q⟩ => ⟨I1.kIn, ?_⟩) he hpl
  exact run_fnG F hgu hr hb hd hx I1 r q
end
theorem FunD_okG {P : Program} {w : World} {K : PySem.W.Frag} {mg : Str → Option Value} {base : Heap} {CX : CXT} {x qual : Str} {params : Arguments} {body : List Stmt} {scope : Scope} {dvs : List V} {kws : List (Str × V)} {f : Addr} {fd : FuncData} {N ps : List Str} {k : Nat} {sp : Sp} {c : Value}
    (F : FunD K x qual params body scope dvs kws f fd) (S : FnScope N ps scope) (hc : fd.code = c) (len : ∀ vs H Q E, sp vs H Q E → vs.length = ps.length)
    (hbody : ∀ (A : Around) (outer : List Env) (s : Shared) (H : Hp) (vs : List V) (Q : VK) (E : XK), A.guards = some [] → Room k (A.deeper (envOfC qual scope s.heap.objs.size f c)) → sp vs H Q E →
      ∃ t, PSs (cxOf CX P w K mg base N qual scope f c A outer s H E) body t ∧ t { nx := fun _ H' => Q .non H', rt := Q } (start N vs) H) : FnG P w K mg base CX (k + 1) f fd ps sp := by
  obtain ⟨oc, od, dV, kV, doc, pm, an, cdv, ct, osl, rfl, lk, hcd, _, _⟩ := F.ex
  cases (show cdv = c from hc)
  exact fn_ofG lk hcd S len fun A outer s H vs Q E hg hr hsp => hbody A outer s H vs Q E hg hr hsp
/-- such a def of the module, by its name -/
structure CalG (P : Program) (w : World) (K : PySem.W.Frag) (mg : Str → Option Value) (base : Heap) (k : Nat) (x : Str) (st : Stmt) (ps : List Str) (sp : Sp) : Prop where
  ex : ∃ (f : Addr) (fd : FuncData), mg x = some (.ref f) ∧ FunD K x x (defArgs st) (defBody st) (defScope st) [] [] f fd ∧ FnG P w K mg base (L2.CX P w) k f fd ps sp
theorem CalG.of {P : Program} {w : World} {K : PySem.W.Frag} {mg : Str → Option Value} {base : Heap} {k : Nat} {x : Str} {st : Stmt} {ps : List Str} {sp : Sp} {f : Addr} {fd : FuncData} (hm : mg x = some (.ref f)) (F : FunD K x x (defArgs st) (defBody st) (defScope st) [] [] f fd) (G : FnG P w K mg base (L2.CX P w) k f fd ps sp) : CalG P w K mg base k x st ps sp := ⟨⟨f, fd, hm, F, G⟩⟩
theorem FnG.mono {P : Program} {w : World} {K : PySem.W.Frag} {mg : Str → Option Value} {base : Heap} {CX : CXT} {j k : Nat} {f : Addr} {fd : FuncData} {ps : List Str} {sp : Sp} (F : FnG P w K mg base CX j f fd ps sp) (h : j ≤ k) : FnG P w K mg base CX k f fd ps sp :=
  ⟨F.len, fun A outer s H args us vs Q E hg hr => F.run A outer s H args us vs Q E hg (hr.mono h)⟩
section
variable {X : Cx} {k j : Nat} {x : Str} {st : Stmt} {ps : List Str} {sp : Sp} {E : XK} {p pos : Pos} {e : Expr} {es : List Expr} {t : TA}
theorem pe_calG (C : CalG X.prog X.w X.K X.mg X.base j x st ps sp) (bd : Bd x st ps) (hgu : X.A.guards = some []) (hr : Room k X.A) (hj : j ≤ k) (hx : Passes (L2.CX X.prog X.w) X E) (hg : Gl X x) (ha : PA X (e :: es) t) (hdb : (x == ("__debug__" : Str)) = false := by decide)
    (he : starEach (e :: es) X.env = (false, eval e X.env) :: starEach es X.env := by rfl) (hpl : (backTo pos (starEach es X.env)).any (·.1) = false := by rfl) : PE X (.Call (.Name x p) (e :: es) [] pos) (tCall sp [] E t) := by
  obtain ⟨f, fd, hm, F, G⟩ := C.ex
  exact pe_callG G hgu (hr.mono hj) hg hm F.kp (F.bindsN bd) .nil hx ha hdb he hpl
/-- repr of data -/
theorem call_reprD (hgu : X.A.guards = some []) (hu : X.A.units + 200 < cLine) : CallR X (.builtin "repr") (fun xs H Q => ∃ v d, xs = [v] ∧ Dp X.K H v d ∧ (∃ a, v = .ref a) ∧ d.showable = true ∧ d.hasDict = false ∧ d.depth ≤ 64 ∧ d.shown.length ≤ sizeLine ∧ Q (.str d.shown) H) := by
  intro pins s σ H xs us Q I r h
  obtain ⟨v, d, rfl, hd, ⟨a, rfl⟩, hs, hn, hdp, hz, q⟩ := h
  obtain ⟨u, rfl, ru⟩ := vals1 r
  cases (show u = Value.ref a from ru)
  obtain ⟨as, rd⟩ := Dp.reads I d (.ref a) (.ref a) hd rfl
  exact repr_of_reads' rd hs (fun e => by rw [hn] at e; cases e) hgu (by omega) (fun _ _ e => e) (fun h' u tk hk => ⟨.str _, H, I.kept (t' := tk) hk, ⟨_, rfl⟩, q⟩) hz
end
/-- a list that is never written: a locked one, one of the written part -/
def FzLg (K : PySem.W.Frag) (H : Hp) (a : Addr) (xs : List V) : Prop := (∃ o, H a = some (.frz o (.lst xs))) ∨ ∃ (o : Obj) (its : Array Value) (n : Nat), K.lookup a = some o ∧ o.cls = .type "list" ∧ o.dict = none ∧ o.data = .seq its n ∧ its.size ≤ sizeLine ∧ Vals xs its.toList
theorem law_callG {P : Program} {w : World} {K : PySem.W.Frag} {mg mb : Str → Option Value} {CX : CXT} {k : Nat} {fa a : Addr} {cs : List (Addr × Addr)} {fd : FuncData} {x : Str} {sp : Sp} {s₁ : Shared} {vs : List Value} {ns : List Int}
    (KX : K.In s₁.heap) (hns : s₁.heap.Ns mainGlobals mg) (hb : s₁.heap.Ns builtinsNs mb) (hbb : ∀ x : Str, x ≠ "__name__" → mb x = bootBuiltins x) (hlim : s₁.heap.NoLimit) (hg : s₁.gens = #[])
    (hT : ∀ p ∈ cs, s₁.heap.get? p.2 = some { cls := .none, data := .fields #[] }) (nT : ∀ p ∈ cs, K.lookup p.2 = none) (C : ∀ p ∈ cs, PySem.W.CodeHd s₁.heap p.1 p.2)
    (hbm : ∃ (bm : Addr) (ob : Obj), mg "__builtins__" = some (.ref bm) ∧ bm ≠ builtinsNs ∧ s₁.heap.get? bm = some ob ∧ ob.cls = .type "module" ∧ ob.dict = some builtinsNs ∧ ob.data = .plain)
    (ha : s₁.heap.get? a = some { cls := .type "list", data := .seq vs.toArray }) (hi : IntsAre vs ns) (hl : ns.length ≤ sizeLine) (hr : Room k callerA)
    (F : ∀ base : Heap, K.In base → base.Ns mainGlobals mg → (∀ p ∈ cs, TabB base mg p.1 p.2) → FnG P w K mg base CX k fa fd [x] sp) (hbind : ∀ (s : Shared) (u : Value), BindsTo s fd ⟨[u], []⟩ [(x, u)])
    (hsp : ∀ H : Hp, (∀ p ∈ cs, H p.2 = some (.tbl #[])) → FzLg K H a (ns.map V.int) → sp [.ref a] H (fun v _ => v = .bl true) fun _ _ _ => False)
    (hCX : ∀ H e s', CX [] H s₁ (fun _ _ _ => False) e s' → False) :
    codeAny (model P w) callerA (.call (.ref fa) ⟨[.ref a], []⟩) (fun r s' => r = .ok (.ret (.bool true)) ∧ OldK s₁.heap s'.heap ∧ s'.os = s₁.os ∧ AllBare s'.gens) s₁ := by
  have rv := vals_ints hi
  have lenV := hi.length
  have isT : ∀ b : Addr, b ∈ cs.map (·.2) → s₁.heap.get? b = some { cls := .none, data := .fields #[] } := fun b hb => by
    obtain ⟨p, hp, e⟩ := List.mem_map.mp hb
    rw [← e]
    exact hT p hp
  have aT : a ∉ cs.map (·.2) := fun z => by
    have q := isT a z
    rw [ha] at q
    have z' : Data.seq vs.toArray _ = Data.fields #[] := congrArg Obj.data (Option.some.inj q)
    cases z'
  have memT : ∀ p ∈ cs, p.2 ∈ cs.map (·.2) := fun p hp => List.mem_map.mpr ⟨p, hp, rfl⟩
  -- from an abstract heap in which nothing but the script and the tables may be tracked
  have core : ∀ H : Hp, (∀ p ∈ cs, H p.2 = some (.tbl #[])) → (∀ b, H b = none ∨ b ∈ cs.map (·.2) ∨ ∃ o xs, H b = some (.frz o (.lst xs))) → FzLg K H a (ns.map V.int) → HOk P w H s₁.heap → (∀ b, H b ≠ none → b = a ∨ b ∈ cs.map (·.2)) → (H a ≠ none → K.lookup a = none) →
      codeAny (model P w) callerA (.call (.ref fa) ⟨[.ref a], []⟩) (fun r s' => r = .ok (.ret (.bool true)) ∧ OldK s₁.heap s'.heap ∧ s'.os = s₁.os ∧ AllBare s'.gens) s₁ := by
    intro H hH hO hS hok hA hK
    have base_of : ∀ {b : Addr} {o : Obj}, s₁.heap.get? b = some o → H b = none → (hidT s₁.heap H).get? b = some o := fun e n => hidT_get e n
    have noD : ∀ {b : Addr} {o : Obj}, s₁.heap.get? b = some o → (∀ vs n, o.data ≠ .seq vs n) → o.data ≠ .fields #[] → H b = none := fun {b o} e h1 h2 => by
      cases q : H b with
      | none => rfl
      | some u =>
        rcases hA b (by rw [q]; simp) with e' | e'
        · rw [e', ha] at e
          cases e
          exact (h1 _ _ rfl).elim
        · rw [isT b e'] at e
          cases e
          exact (h2 rfl).elim
    have noA : ∀ {b : Addr} {o : Obj} {es : Array DictEntry} {ep : Nat}, s₁.heap.get? b = some o → o.data = .dict es ep → H b = none := fun {b o es ep} e d => by
      refine noD e (fun vs n z => ?_) fun z => ?_
      · rw [d] at z
        cases z
      · rw [d] at z
        cases z
    have nsK : ∀ {b : Addr} {m : Str → Option Value}, s₁.heap.Ns b m → (hidT s₁.heap H).Ns b m := fun {b m} ⟨o, es, ep, e, d, r⟩ => ⟨o, es, ep, base_of e (noA e d), d, r⟩
    have hKb : K.In (hidT s₁.heap H) := fun b o e => base_of (KX b o e) (by
      cases q : H b with
      | none => rfl
      | some u =>
        rcases hA b (by rw [q]; simp) with e' | e'
        · rw [e'] at e q
          rw [hK (by rw [q]; simp)] at e
          cases e
        · obtain ⟨p, hp, ep⟩ := List.mem_map.mp e'
          rw [← ep, nT p hp] at e
          cases e)
    have hM : L2.Mod K mg (hidT s₁.heap H) := ⟨hKb, nsK hns, ⟨mb, nsK hb, hbb⟩, let ⟨mc, h1, h2⟩ := hlim; ⟨mc, nsK h1, h2⟩⟩
    have TB : ∀ p ∈ cs, TabB (hidT s₁.heap H) mg p.1 p.2 := fun p hp => by
      have hTp := hT p hp
      refine ⟨?_, ?_, fun z => ?_⟩
      · obtain ⟨o, us, file, tf, flags, tg, inF, text, tt, e1, r1, r2, r3, r4, r5, r6, r7, r8, hne⟩ := C p hp
        refine ⟨o, us, file, tf, flags, tg, inF, text, tt, base_of e1 (noD e1 (fun vs n z => ?_) fun z => ?_), r1, r2, r3, r4, r5, r6, r7, r8, hne⟩
        · rw [r2] at z
          cases z
        · rw [r2] at z
          cases z
          simp at r3
      · obtain ⟨bm, ob, b1, b2, b3, b4, b5, b6⟩ := hbm
        have nG : bm ≠ mainGlobals := fun q => by
          obtain ⟨o, es, ep, e, hd, _⟩ := hns
          rw [q, e] at b3
          cases b3
          rw [hd] at b6
          cases b6
        have nP : bm ≠ p.2 := fun q => by
          rw [q, hTp] at b3
          cases b3
          cases b6
        refine ⟨bm, ob, b1, b2, nG, nP, base_of b3 (noD b3 (fun vs n z => ?_) fun z => ?_), b4, b5, b6⟩
        · rw [b6] at z
          cases z
        · rw [b6] at z
          cases z
      · obtain ⟨o, es, ep, e, hd, _⟩ := hns
        rw [z, hTp] at e
        cases e
        cases hd
    have e0 : Env0 P w K mg (hidT s₁.heap H) callerA [] s₁ H := ⟨rfl, hM, fun b o e => of_hidT e, Nat.le_of_eq (hidT_size _ _), trivial, fun b hb => absurd (show b ∈ ([] : List Addr) from hb) (by simp), hok, .of_eq hg⟩
    refine codeAny_mono ((F _ hKb (nsK hns) TB).run callerA [] s₁ H ⟨[.ref a], []⟩ [.ref a] [.ref a] _ _ rfl hr e0 (hbind s₁ (.ref a)) (.cons rfl .nil) (hsp H hH hS)) fun r s' h => ?_
    cases r with
    | error e => exact (hCX H e s' h).elim
    | ok fl =>
      cases fl with
      | next => exact False.elim h
      | brk => exact False.elim h
      | cont => exact False.elim h
      | ret u =>
        obtain ⟨v, H', os, bare, un, hok', r', q⟩ := h
        have q' : v = .bl true := q
        subst q'
        obtain rfl : u = Value.bool true := r'
        have key : ∀ b o, b ∉ cs.map (·.2) → s₁.heap.get? b = some o → s'.heap.get? b = some o := fun b o nb e => by
          cases q : H b with
          | none => exact un.keep b o e q (by intro z; exact absurd (show b ∈ ([] : List Addr) from z) (by simp)) (by simp)
          | some u =>
            rcases hO b with z | z | ⟨ob, xs, z⟩
            · rw [q] at z; cases z
            · exact absurd z nb
            · have z2 := un.frzs b ob _ z
              obtain ⟨e1, _⟩ := hok b _ z
              obtain ⟨e2, _⟩ := hok' b _ z2
              rw [e] at e1; cases e1
              exact e2
        have grown : ∀ p ∈ cs, ∃ more : Array Value, s'.heap.get? p.2 = some { cls := .none, data := .fields more } := fun p hp => by
          obtain ⟨more, z⟩ := un.tbls p.2 #[] (hH p hp)
          exact ⟨_, hok' p.2 _ z⟩
        refine ⟨rfl, ⟨fun b o e => ?_, fun b o e => ?_⟩, os, bare⟩
        · by_cases hb : b ∈ cs.map (·.2)
          · obtain ⟨p, hp, ep⟩ := List.mem_map.mp hb
            obtain ⟨more, hm⟩ := grown p hp
            rw [← ep] at e ⊢
            rw [hT p hp] at e
            cases e
            exact .inr (.inl ⟨((C p hp).tab (hT p hp)).isCodeTable, rfl, #[], more, rfl, by rw [Array.empty_append]; exact hm⟩)
          · exact .inl (key b o hb e)
        · by_cases hb : b ∈ cs.map (·.2)
          · obtain ⟨p, hp, ep⟩ := List.mem_map.mp hb
            obtain ⟨more, hm⟩ := grown p hp
            rw [← ep]
            exact ⟨_, hm⟩
          · exact ⟨o, key b o hb e⟩
  cases hk : K.lookup a with
  | some o =>
    have e := KX a o hk
    rw [ha] at e
    cases e
    refine core (fun b => if b ∈ cs.map (·.2) then some (.tbl #[]) else none) (fun p hp => if_pos (memT p hp)) (fun b => ?_) (.inr ⟨_, vs.toArray, _, hk, rfl, rfl, rfl, by rw [List.size_toArray, lenV]; exact hl, by simpa using rv⟩) (fun b u z => ?_) (fun b z => ?_) fun z => absurd (show (if a ∈ cs.map (·.2) then some (HO.tbl #[]) else none) = none from if_neg aT) z
    · by_cases hb : b ∈ cs.map (·.2)
      · exact .inr (.inl hb)
      · exact .inl (if_neg hb)
    · by_cases hb : b ∈ cs.map (·.2)
      · have z' := (if_pos hb).symm.trans z
        cases z'
        exact isT b hb
      · have z' := (if_neg hb).symm.trans z
        cases z'
    · by_cases hb : b ∈ cs.map (·.2)
      · exact .inr hb
      · exact absurd (if_neg hb) z
  | none =>
    refine core (fun b => if b = a then some (.frz { cls := .type "list", data := .seq vs.toArray } (.lst (ns.map V.int))) else if b ∈ cs.map (·.2) then some (.tbl #[]) else none) (fun p hp => (if_neg (show ¬ p.2 = a from fun z => aT (by rw [← z]; exact memT p hp))).trans (if_pos (memT p hp))) (fun b => ?_)
      (.inl ⟨{ cls := .type "list", data := .seq vs.toArray }, if_pos rfl⟩) (fun b u z => ?_) (fun b z => ?_) fun _ => hk
    · by_cases hb : b = a
      · exact .inr (.inr ⟨_, _, if_pos hb⟩)
      · by_cases hb2 : b ∈ cs.map (·.2)
        · exact .inr (.inl hb2)
        · exact .inl ((if_neg hb).trans (if_neg hb2))
    · by_cases hb : b = a
      · have z' := (if_pos hb).symm.trans z
        cases z'
        rw [hb]
        exact ⟨ha, by rw [List.length_map]; exact hl, vs, _, rv, ha⟩
      · have z1 := (if_neg hb).symm.trans z
        by_cases hb2 : b ∈ cs.map (·.2)
        · have z' := (if_pos hb2).symm.trans z1
          cases z'
          exact isT b hb2
        · have z' := (if_neg hb2).symm.trans z1
          cases z'
    · by_cases hb : b = a
      · exact .inl hb
      · by_cases hb2 : b ∈ cs.map (·.2)
        · exact .inr hb2
        · exact absurd ((if_neg hb).trans (if_neg hb2)) z
def LawAtG (l : PySem.W.OpenLaw) (w : World) (K : PySem.W.Frag) (CX : CXT) (k n : Nat) (x : Str) (mg : Str → Option Value) (fa : Addr) (h : Heap) : Prop :=
  ∃ (fd : FuncData) (cs : List (Addr × Addr)) (sp : Sp), (∀ p ∈ cs, h.get? p.2 = some { cls := .none, data := .fields #[] }) ∧ (∀ p ∈ cs, K.lookup p.2 = none) ∧ (∀ p ∈ cs, PySem.W.CodeHd h p.1 p.2) ∧ (∀ (s : Shared) (u : Value), BindsTo s fd ⟨[u], []⟩ [(x, u)]) ∧
    (∀ (H : Hp) (a : Addr) (ns : List Int), ns.length ≤ n → (∀ z ∈ ns, Builtin.Int.intBits z ≤ 1048576) → (∀ p ∈ cs, H p.2 = some (.tbl #[])) → FzLg K H a (ns.map V.int) → sp [.ref a] H (fun v _ => v = .bl true) fun _ _ _ => False) ∧
    ∀ base : Heap, K.In base → base.Ns mainGlobals mg → (∀ p ∈ cs, TabB base mg p.1 p.2) → FnG l.prog w K mg base CX k fa fd [x] sp
theorem walk_ofG {l : PySem.W.OpenLaw} {n k : Nat} {q : Program} {loose : List Str} {XP : (Str → Option Value) → Heap → Prop} {YP : World → Heap → Prop} {d : DefRec} {CX : World → CXT} {x : Str}
    (hn : l.most = some n) (hn2 : n ≤ sizeLine) (hdf : d.params.defaults = []) (hr : Room k callerA)
    (F : ∀ (w : World) (mg : Str → Option Value) (fa : Addr) (h : Heap), YP w h → h.Ns mainGlobals mg → mg d.name = some (.ref fa) → ∃ K : PySem.W.Frag, K.In h ∧ LawAtG l w K (CX w) k n x mg fa h)
    (hCX : ∀ (w : World) (H : Hp) (s : Shared) (e : Value) (s' : Shared), CX w [] H s (fun _ _ _ => False) e s' → False) :
    PySem.W.WalkO q loose XP YP l.row.toRowW d [] (fun f vs => PySem.call f vs) := by
  refine Att.attach_callB hn hdf fun w s₀ s₁ mg mb fa o pm cd doc a vs ns G Y ho hd hcd hmg hobj hints hlen hbits hg => ?_
  obtain ⟨K, KX, fd, cs, sp, hT, nT, C, hb, hsp, hF⟩ := F w mg fa _ Y G.T.g hmg
  exact law_callG KX G.T.g G.T.b G.T.builtins G.T.nolimit hg hT nT C G.T.bmain hobj hints (Nat.le_trans hlen hn2) hr hF hb (fun H hH hS => hsp H a ns hlen hbits hH hS) fun H e s' => hCX w H s₁ e s'
end DL

set_option Elab.async false
set_option linter.all false
set_option maxRecDepth 100000
set_option maxHeartbeats 4000000
/-! == and != by an own __eq__, whatever stands on the other side -/
namespace DL
open PySem PySem.Spec PyProof.Rows PySem.SeqAt
section
variable {prog : Program} {w : World} {A : Around} {E : Value → Shared → Prop} {s : Shared} {K : PySem.W.Frag} {x C f : Addr} {ox : Obj} {od : Option Obj} {b tb : Value}
theorem neO_entry {Q : Fin → Shared → Prop} (X : K.In s.heap) (I : PySem.W.InstAt s.heap x ox C od) (hs : PySem.W.findIn K (.ref C) "__eq__" = some (some (.ref f))) (hf : PySem.W.isFn K (.ref f) = true) (hu : A.units < cLine)
    (h : wpAny (model prog w) A (call (.ref f) [.ref x, b]) (fun v s' => ∃ r, v = .bool r ∧ Q (.done (.ret (.bool (!r)))) s') E s) : wpAny (model prog w) A (Builtin.«object.__ne__» ⟨[.ref x, b], []⟩) Q E s := by
  unfold Builtin.«object.__ne__»
  repeat (first | with_reducible refine wpAny_cRoomFor hu ?_ | (with_reducible refine PySem.W.ifBound_K X I hs hf (wpAny_mono h (fun v s1 hv => ?_) fun _ _ e => e); obtain ⟨r, rfl, q⟩ := hv) | with_reducible refine wpAny_truthy_bool ?_ | wp_step)
  exact q
theorem call_neO {Q : Value → Shared → Prop} (X : K.In s.heap) (I : PySem.W.InstAt s.heap x ox C od) (hm : PySem.W.mroIn K C (.type "object") = some true) (hs : PySem.W.findIn K (.ref C) "__eq__" = some (some (.ref f))) (hf : PySem.W.isFn K (.ref f) = true) (hu : A.units + 1 < cLine)
    (h : wpAny (model prog w) A.in1 (call (.ref f) [.ref x, b]) (fun v s' => ∃ r, v = .bool r ∧ Q (.bool (!r)) s') E s) : wpAny (model prog w) A (call (.builtin "object.__ne__") [.ref x, b]) Q E s :=
  wpAny_call (codeAny_call_builtin F.cmp_object.ne.plain F.cmpEntry_ne (PySem.W.check_slot F.cmpKind_ne F.cmpSplit_ne (I.type.andThen (PySem.W.looks_mroIn X hm)) (F.cmpArgs_ne _ _) (neO_entry X I hs hf (by show A.units + 1 < cLine; exact hu) h)))
theorem ifBound_neO {M : Model} {args : List Value} {Q : Option Value → Shared → Prop} (X : K.In s.heap) (I : PySem.W.InstAt s.heap x ox C od) (hs : PySem.W.findIn K (.ref C) "__ne__" = some (some (.builtin "object.__ne__")))
    (h : wpAny M A (call (.builtin "object.__ne__") (.ref x :: args)) (fun v => Q (some v)) E s) : wpAny M A (callSpecialIfBound? (.ref x) "__ne__" args) Q E s := by
  simp only [callSpecialIfBound?, bindSpecialIfBound?]
  refine wpAny_holding (wpAny_bind (wpAny_bind (wpAny_bind (I.type.here ((PySem.W.looks_findIn X hs).here ?_)))))
  refine wpAny_bind (wpAny_askSetting (wpAny_ite ?_))
  have fin : wpAny M A (call (.builtin "object.__ne__") ([.ref x] ++ args) >>= fun v => pure (some v)) Q E s := wpAny_bind (wpAny_mono h (fun v s' h' => wpAny_pure h') fun _ _ h' => h')
  split
  · exact wpAny_bind (wpAny_of_eq (F.cmp_object.ne.bind _) (wpAny_pure (by exact fin)))
  · exact wpAny_tryCatch (wpAny_bind (wpAny_of_eq (F.cmp_object.ne.bind _) (wpAny_pure (by exact fin))))
/-- what an own class with an __eq__ alone says -/
structure EqC (K : PySem.W.Frag) (C f : Addr) : Prop where
  eq : PySem.W.findIn K (.ref C) "__eq__" = some (some (.ref f))
  fn : PySem.W.isFn K (.ref f) = true
  ne : PySem.W.findIn K (.ref C) "__ne__" = some (some (.builtin "object.__ne__"))
  ob : PySem.W.mroIn K C (.type "object") = some true
/-- x == b, x != b, x an instance of such a class -/
theorem rc_own {op : CmpOp} {Q : Value → Shared → Prop} (hop : op = .Eq ∨ op = .NotEq) (X : K.In s.heap) (T : EqC K C f) (hu : A.units + 1 < cLine) (I : PySem.W.InstAt s.heap x ox C od) (hb : PySem.W.Looks (model prog w) s.heap (typeOf b) tb) (hn : PySem.W.notFirst K C tb = true)
    (h : wpAny (model prog w) (if op = .Eq then A else A.in1) (call (.ref f) [.ref x, b]) (fun v s' => ∃ r, v = .bool r ∧ Q (.bool (if op = .Eq then r else !r)) s') E s) : wpAny (model prog w) A (richCompare op (.ref x) b) Q E s := by
  have one : wpAny (model prog w) A (tryCompare (.ref x) (cmpInfo op).2.1 b) (fun r s' => ∃ v, r = some v ∧ Q v s') E s := by
    rcases hop with rfl | rfl
    · unfold tryCompare
      refine wpAny_bind (PySem.W.ifBound_K X I T.eq T.fn (wpAny_mono h (fun v s' hv => ?_) fun _ _ e => e))
      obtain ⟨r, rfl, q⟩ := hv
      exact wpAny_pure ⟨_, rfl, q⟩
    · unfold tryCompare
      refine wpAny_bind (ifBound_neO X I T.ne (call_neO X I T.ob T.eq T.fn hu (wpAny_mono h (fun v s' hv => ?_) fun _ _ e => e)))
      obtain ⟨r, rfl, q⟩ := hv
      exact ⟨r, rfl, wpAny_pure ⟨_, rfl, q⟩⟩
  unfold richCompare
  simp only [oneThing_ref]
  refine wpAny_holding (wpAny_bind (wpAny_cRoomFor (by omega) ?_))
  refine wpAny_bind (I.type.here (wpAny_bind (hb.here ?_)))
  split
  · rename_i q
    have e : PySem.W.subIn K tb (.ref C) = some false := by
      rcases Bool.or_eq_true_iff.mp hn with e | e
      · rw [beq_iff_eq.mp e] at q; simp at q
      · exact beq_iff_eq.mp e
    refine wpAny_bind ((PySem.W.looks_subIn X e).here ?_)
    simp only [Bool.false_eq_true, if_false]
    refine wpAny_bind (wpAny_mono one (fun r s' z => ?_) fun _ _ e => e)
    obtain ⟨v, rfl, hq⟩ := z
    exact wpAny_pure hq
  · refine wpAny_bind (wpAny_pure ?_)
    simp only [Bool.false_eq_true, if_false]
    refine wpAny_bind (wpAny_mono one (fun r s' z => ?_) fun _ _ e => e)
    obtain ⟨v, rfl, hq⟩ := z
    exact wpAny_pure hq
/-- a == x, a of a built-in type that declines: x's own __eq__ is asked -/
theorem rc_back {a : Value} {Ta id : String} {Q : Value → Shared → Prop} (X : K.In s.heap) (T : EqC K C f) (hu : A.units + 1 < cLine) (ha : s.TypeIs a Ta) (I : PySem.W.InstAt s.heap x ox C od) (hsub : PySem.W.subIn K (.ref C) (.type Ta) = some false) (h1 : Slot Ta "__eq__" id)
    (hc1 : ∀ Q' : Value → Shared → Prop, Q' .notImplemented s → wpAny (model prog w) A (call (.builtin id) [a, .ref x]) Q' E s)
    (h : wpAny (model prog w) A (call (.ref f) [.ref x, a]) (fun v s' => ∃ r, v = .bool r ∧ Q (.bool r) s') E s) : wpAny (model prog w) A (richCompare .Eq a (.ref x)) Q E s := by
  have two : wpAny (model prog w) A (tryCompare (.ref x) "__eq__" a) (fun r s' => ∃ v, r = some v ∧ Q v s') E s := by
    unfold tryCompare
    refine wpAny_bind (PySem.W.ifBound_K X I T.eq T.fn (wpAny_mono h (fun v s' hv => ?_) fun _ _ e => e))
    obtain ⟨r, rfl, q⟩ := hv
    exact wpAny_pure ⟨_, rfl, q⟩
  simp only [richCompare, cmpInfo_Eq, ha.oneThing_none]
  refine wpAny_holding (wpAny_bind (wpAny_cRoomFor (by omega) ?_))
  refine wpAny_bind (wpAny_typeOf ha (wpAny_bind (I.type.here ?_)))
  split
  · refine wpAny_bind ((PySem.W.looks_subIn X hsub).here ?_)
    simp only [Bool.false_eq_true, if_false, Bool.not_false, if_true]
    refine wpAny_bind (m := tryCompare a _ (.ref x)) (wpAny_tryCompare_declines ha h1 (hc1 _ ⟨rfl, ?_⟩))
    refine wpAny_bind (m := tryCompare (.ref x) _ a) (wpAny_mono two (fun r s' z => ?_) fun _ _ e => e)
    obtain ⟨v, rfl, hq⟩ := z
    exact wpAny_pure hq
  · rename_i q
    exact absurd (by simp) q
theorem tuple_eq_own {a : Value} {Q : Fin → Shared → Prop} (hI : PySem.W.Looks (model prog w) s.heap (isInstance b (.type "tuple")) false) (hQ : Q (.done (.ret .notImplemented)) s) : wpAny (model prog w) A (Builtin.«tuple.__eq__» ⟨[a, b], []⟩) Q E s := by
  obtain ⟨hp, g, d, tk, os⟩ := s
  wp_walk using hI.here
  exact hQ
theorem list_eq_own {a : Value} {Q : Fin → Shared → Prop} (hI : PySem.W.Looks (model prog w) s.heap (isInstance b (.type "list")) false) (hQ : Q (.done (.ret .notImplemented)) s) : wpAny (model prog w) A (Builtin.«list.__eq__» ⟨[a, b], []⟩) Q E s := by
  obtain ⟨hp, g, d, tk, os⟩ := s
  wp_walk using hI.here
  exact hQ
end
end DL
namespace DL
open PySem PySem.Spec PyProof.Rows L2
section
variable {X : Cx} {CX : CXT} {n : Nat} {C f : Addr} {fd : FuncData} {sp : Sp} {E : XK}
/-- the own __eq__ of the class at C, as a def that keeps sp -/
structure OwnEq (P : Program) (w : World) (K : PySem.W.Frag) (mg : Str → Option Value) (base : Heap) (n : Nat) (C : Addr) (sp : Sp) : Prop where
  ex : ∃ (f : Addr) (fd : FuncData) (ps : List Str), EqC K C f ∧ FnOk P w K mg base (L2.CX P w) n f fd ps sp ∧ Binds K fd ps []
theorem own_run {pins : List (Addr × Obj)} {σ : L2.St} {H : Hp} {s : Shared} {A : Around} {x y : V} {u v : Value} {Qb : Bool → Hp → Prop} {ps : List Str} (F : FnOk X.prog X.w X.K X.mg X.base (L2.CX X.prog X.w) n f fd ps sp) (hb : Binds X.K fd ps []) (hx : Passes (L2.CX X.prog X.w) X E) (sb : Sub X n A) (I : Inv X pins σ H s) (rx : RelV x u) (ry : RelV y v)
    (h : sp [x, y] H (fun z H' => ∃ r, z = .bl r ∧ Qb r H') E) : wpAny (model X.prog X.w) A (call (.ref f) [u, v]) (fun c s' => ∃ r, c = .bool r ∧ ∃ H', Inv X pins σ H' s' ∧ Qb r H') X.xe s := by
  have e0 : Env0 X.prog X.w X.K X.mg X.base A X.stack s H := by
    have e := I.env0
    exact ⟨by rw [sb.fr]; exact e.frames, e.mod, e.bs, e.bsz, e.funs, e.frf, e.hok, e.bare⟩
  have hl := F.len _ _ _ _ h
  have r2 : Vals [x, y] [u, v] := .cons rx (.cons ry .nil)
  refine wpAny_call (codeAny_mono (F.run A X.stack s H ⟨[u, v], []⟩ [u, v] [x, y] _ E sb.room e0 (by
    have := hb s [u, v] I.kIn (by simpa using hl)
    simpa using this) r2 h) fun r s' hq => ?_)
  cases r with
  | error e => exact hx pins σ H s e s' I hq
  | ok fl =>
    cases fl with
    | ret w =>
      obtain ⟨z, H', I', rz, b, ez, q⟩ := I.after hq
      subst ez
      cases rz
      exact ⟨b, rfl, H', I', q⟩
    | next => exact False.elim hq
    | brk => exact False.elim hq
    | cont => exact False.elim hq
/-- x == y, x != y, x an instance of the class at C -/
def rOw (op : CmpOp) (K : PySem.W.Frag) (C : Addr) (sp : Sp) (E : XK) : R2 := fun x y H Q => ∃ (a dx : Addr) (fs : List (Str × V)) (t : Value), x = .ref a ∧ H a = some (.ins C dx fs) ∧ TyX K H y t ∧ PySem.W.notFirst K C t = true ∧ sp [x, y] H (fun z H' => ∃ r, z = .bl r ∧ Q (.bl (if op = .Eq then r else !r)) H') E
theorem op_own {op : CmpOp} (hop : op = .Eq ∨ op = .NotEq) (hc : compareOp op = richCompare op) (O : OwnEq X.prog X.w X.K X.mg X.base n C sp) (hr : Room (n + 1) X.A) (hx : Passes (L2.CX X.prog X.w) X E) : OpR X (compareOp op) (rOw op X.K C sp E) := by
  intro pins s σ H x y v u Q I rx ry h
  obtain ⟨f, fd, ps, T, F, hb⟩ := O.ex
  obtain ⟨a, dx, fs, t, rfl, ha, ty, nf, q⟩ := h
  cases rx
  obtain ⟨mA, J, _⟩ := ins_get I.hok ha
  obtain ⟨od, J, _⟩ := J.look
  obtain ⟨Pk, Z, pk, _⟩ := kit_of I ry ty
  rw [hc]
  refine rc_own hop I.kIn T (by have := hr.units; omega) J (Z.ty _ _ I.kIn pk) nf ?_
  have sb : Sub X n (if op = .Eq then X.A else X.A.in1) := by
    split
    · exact ⟨hr.mono (by omega), rfl⟩
    · exact ⟨hr.in1, rfl⟩
  refine wpAny_mono (own_run F hb hx sb I (x := .ref a) (y := y) rfl ry q) (fun c s' z => ?_) fun _ _ e => e
  obtain ⟨r, rfl, H', I', q'⟩ := z
  exact ⟨r, rfl, .bl _, H', I', rfl, q'⟩
theorem op_eqOw (O : OwnEq X.prog X.w X.K X.mg X.base n C sp) (hr : Room (n + 1) X.A) (hx : Passes (L2.CX X.prog X.w) X E) : OpR X (compareOp .Eq) (rOw .Eq X.K C sp E) := op_own (.inl rfl) rfl O hr hx
theorem op_neOw (O : OwnEq X.prog X.w X.K X.mg X.base n C sp) (hr : Room (n + 1) X.A) (hx : Passes (L2.CX X.prog X.w) X E) : OpR X (compareOp .NotEq) (rOw .NotEq X.K C sp E) := op_own (.inr rfl) rfl O hr hx
/-- t == y, t a tuple or None, y such an instance -/
def rOwB (K : PySem.W.Frag) (C : Addr) (sp : Sp) (E : XK) : R2 := fun x y H Q => ∃ (a dx : Addr) (fs : List (Str × V)), y = .ref a ∧ H a = some (.ins C dx fs) ∧ (x = .non ∨ ∃ b xs, x = .ref b ∧ SqT K H b xs) ∧ sp [y, x] H (fun z H' => ∃ r, z = .bl r ∧ Q (.bl r) H') E
theorem op_eqOwB (O : OwnEq X.prog X.w X.K X.mg X.base n C sp) (ht : PySem.W.mroIn X.K C (.type "tuple") = some false) (s1 : PySem.W.subIn X.K (.ref C) (.type "tuple") = some false) (s2 : PySem.W.subIn X.K (.ref C) (.type "NoneType") = some false) (hr : Room (n + 1) X.A) (hx : Passes (L2.CX X.prog X.w) X E) : OpR X (compareOp .Eq) (rOwB X.K C sp E) := by
  intro pins s σ H x y v u Q I rx ry h
  obtain ⟨f, fd, ps, T, F, hb⟩ := O.ex
  obtain ⟨a, dx, fs, rfl, ha, hxx, q⟩ := h
  cases ry
  obtain ⟨mA, J, _⟩ := ins_get I.hok ha
  obtain ⟨od, J, _⟩ := J.look
  show wpAny _ _ (richCompare .Eq v (.ref a)) _ _ _
  have fin : wpAny (model X.prog X.w) X.A (call (.ref f) [.ref a, v]) (fun c s' => ∃ r, c = .bool r ∧ EP X pins σ Q (.bool r) s') X.xe s := by
    refine wpAny_mono (own_run F hb hx ⟨hr.mono (by omega), rfl⟩ I (x := .ref a) (y := x) rfl rx q) (fun c s' z => ?_) fun _ _ e => e
    obtain ⟨r, rfl, H', I', q'⟩ := z
    exact ⟨r, rfl, .bl _, H', I', rfl, q'⟩
  have hu : X.A.units + 1 < cLine := by have := hr.units; omega
  rcases hxx with rfl | ⟨b, xs, rfl, hs⟩
  · cases rx
    exact rc_back I.kIn T hu (show s.TypeIs .none "NoneType" from rfl) J s2 PySem.F.slot_NoneType_eq_refl (fun Q' hq => PySem.call_gives PySem.F.slot_NoneType_eq_refl rfl PySem.F.entry_NoneType_eq (PySem.F.args_NoneType_eq_2 _ _) (PySem.SeqAt.NoneType___eq___none_ref_0 a) hq) fin
  · cases rx
    obtain ⟨its, rv, ⟨o, h1, h2, h3⟩, hz⟩ := I.tuple hs
    have hT : s.TypeIs (.ref b) "tuple" := ⟨o, h1, h2⟩
    refine rc_back I.kIn T hu hT J s1 PySem.F.slot_tuple_eq (fun Q' hq => wpAny_call_entry PySem.F.slot_tuple_eq hT PySem.F.entry_tuple_eq (tuple_eq_own (J.type.andThen (PySem.W.looks_mroIn I.kIn ht)) ⟨_, rfl, hq⟩) (PySem.F.args_tuple_eq_2 _ _)) fin
end
end DL

set_option Elab.async false
set_option linter.all false
set_option maxRecDepth 100000
set_option maxHeartbeats 4000000
/-! comprehensions and loops over data, all(..) -/
namespace DL
open PySem PySem.Spec PyProof.Rows L2
def iDat (K : PySem.W.Frag) (tl : TE) : TI := fun σ H R => tl σ H fun x H1 => ∃ a, x = .ref a ∧ (((∃ xs, SqL K H1 a xs) ∧ R (Itl K a) H1) ∨ ((∃ xs, SqT K H1 a xs) ∧ R (Itt K a) H1))
section
variable {X : Cx} {tg : Expr}
theorem pi_dat {l : Expr} {tl : TE} (hl : PE X l tl) : PI X tg l (iDat X.K tl) := by
  refine ⟨fun pins s σ H R I h => ?_⟩
  have fr : ∀ {H1 : Hp} {s1 : Shared} (I1 : Inv X pins σ H1 s1) (b : Addr), b ∈ [s1.heap.objs.size] → FpOk X pins H1 b := fun {H1 s1} I1 b hb => by
    have e : b = s1.heap.objs.size := by simpa using hb
    subst e
    exact I1.fpOk (Nat.le_refl _) (I1.hok.fresh (Nat.le_refl _))
  refine thn (hl.run pins s σ H _ I h) fun v s1 ⟨x, H1, I1, r1, q1⟩ => ?_
  obtain ⟨a, e, ⟨⟨xs, hq⟩, q⟩ | ⟨⟨xs, hq⟩, q⟩⟩ := q1
  · subst e
    cases r1
    obtain ⟨its, rv, p, hz⟩ := I1.list hq
    refine wpAny_pyIter_list p.isList ?_
    exact ⟨s1.heap.objs.size, [s1.heap.objs.size], _, _, H1, rfl, I1.kept (t' := s1.toks) fun b o e => Heap.get?_push_of_some _ e, turn_list a _, ⟨_, Heap.get?_push_size _ rfl, rfl, rfl⟩, fr I1, q⟩
  · subst e
    cases r1
    obtain ⟨its, rv, p, hz⟩ := I1.tuple hq
    refine wpAny_pyIter_tuple (show s1.heap.IsTuple a its.toArray from p) ?_
    exact ⟨s1.heap.objs.size, [s1.heap.objs.size], _, _, H1, rfl, I1.kept (t' := s1.toks) fun b o e => Heap.get?_push_of_some _ e, turn_tuple a _, ⟨_, Heap.get?_push_size _ rfl, rfl, rfl⟩, fr I1, q⟩
end
section
variable {K : PySem.W.Frag} {N : Addr → Prop} {σ : L2.St} {H : Hp}
abbrev NP (N : Addr → Prop) (D : Addr) : Addr → Prop := fun b => N b ∨ b = D
/-- a test that is pure: the answer b, the heap grown -/
def AX (t : TT) (σ : L2.St) (H : Hp) (b : Bool) : Prop := ∀ H1, Ex H H1 → ∀ Q : Bool → Hp → Prop, (∀ H', Ex H1 H' → Q b H') → t σ H1 Q
theorem VE.at {te : TE} {d : PyData} {H1 : Hp} (h : VE K N te σ H d) (e : Ex H H1) : VE K N te σ H1 d := fun H2 e2 => h H2 (e.tr e2)
theorem AX.at {t : TT} {b : Bool} {H1 : Hp} (h : AX t σ H b) (e : Ex H H1) : AX t σ H1 b := fun H2 e2 => h H2 (e.tr e2)
theorem AX.go {t : TT} {b : Bool} {Q : Bool → Hp → Prop} (h : AX t σ H b) (q : ∀ H', Ex H H' → Q b H') : t σ H Q := h H (ex_refl H) Q q
theorem VE.go {te : TE} {d : PyData} {Q : VK} (h : VE K N te σ H d) (q : ∀ v H', Ex H H' → Rp K N H' v d → Q v H') : te σ H Q := h H (ex_refl H) Q q
theorem ax_yes : AX tYes σ H true := fun H1 _ Q q => q H1 (ex_refl H1)
theorem ve_var {i : Nat} {v : V} {d : PyData} (h : σ[i]? = some (some v)) (r : Rp K N H v d) : VE K N (tVar i) σ H d := fun H1 e Q q => ⟨v, h, q _ _ (ex_refl H1) (r.ex e)⟩
theorem nn_of (hN : ∀ a, N a → H a ≠ none) {H' : Hp} {D : Addr} (e : Ex H H') (hD : H' D ≠ none) : ∀ a, NP N D a → H' a ≠ none := fun a h => by
  rcases h with h | h
  · cases c : H a with
    | none => exact absurd c (hN a h)
    | some o => rw [e _ _ c]; exact fun z => by cases z
  · rw [h]
    exact hD
theorem rpA_snoc {vs : List V} {ds : List PyData} {v : V} {d : PyData} (h : RpA K N H vs ds) (r : Rp K N H v d) : RpA K N H (vs ++ [v]) (ds ++ [d]) := by
  induction ds generalizing vs with
  | nil =>
    cases h
    exact .cons r .nil
  | cons e es ih =>
    cases h with
    | cons a b => exact .cons a (ih b)
theorem take_fm {ds : List PyData} {p : PyData → Bool} {f : PyData → PyData} {i : Nat} {e : PyData} (h : ds[i]? = some e) : ((ds.take (i + 1)).filter p).map f = ((ds.take i).filter p).map f ++ (if p e then [f e] else []) := by
  have h1 : ds.take (i + 1) = ds.take i ++ [e] := by
    rw [List.take_add_one, h]
    rfl
  rw [h1, List.filter_append, List.map_append]
  congr 1
  cases c : p e <;> simp [c]
theorem kp_upd {D : Addr} {o : HO} : Kp (NP N D) H (upd H D o) := fun b u h n _ => by
  rw [upd_ne (fun e => n (.inr e))]
  exact h
theorem ex_updN {H1 H2 : Hp} {D : Addr} {o : HO} (e : Ex H1 H2) (hD : H1 D = none) : Ex H1 (upd H2 D o) := fun b u h => by
  rw [upd_ne (ne_of_none h hD)]
  exact e b u h
theorem sz_nat {n : Nat} (h : n ≤ 100000) : n < sizeLine := Nat.lt_of_le_of_lt h (by decide)
/-- [f(x) for x in d if p(x)], pure -/
theorem ve_lc {Ni : Addr → Prop} {te : TE} {tt : TT} {tb : TE} {i : Nat} {d : PyData} {ds : List PyData} (p : PyData → Bool) (f : PyData → PyData) (hN : ∀ a, N a → H a ≠ none) (hx : VE K Ni te σ H d) (hseq : seqOf d = some ds) (hl : ds.length ≤ 100000)
    (ht : ∀ e, e ∈ ds → ∀ v H1, Ex H H1 → Rp K Ni H1 v e → AX tt ((wipe σ [i]).set i (some v)) H1 (p e))
    (he : ∀ D H1, Ex H H1 → H1 D = none → ∀ e, e ∈ ds → p e = true → ∀ v H2, Ex H1 H2 → (∀ a, NP N D a → H2 a ≠ none) → Rp K (NP Ni D) H2 v e → VE K (NP N D) tb ((wipe σ [i]).set i (some v)) H2 (f e)) :
    VE K N (tLc (iDat K te) (gName i) tt tb [i]) σ H (.list ((ds.filter p).map f)) := by
  intro H1 e1 Q q
  refine hx H1 e1 _ fun x H2 e2 rx => ?_
  obtain ⟨a, xs, rfl, hs, _, ra⟩ := rx.seq hseq
  have hw : ∀ v : V, wipe ((wipe σ [i]).set i (some v)) [i] = wipe σ [i] := fun v => by
    show ((σ.set i none).set i (some v)).set i none = σ.set i none
    simp
  have e12 := e1.tr e2
  have core : ∀ D, H2 D = none → ∀ (j : Nat) (x : V) (H' : Hp), xs[j]? = some x → (Ex H2 H' ∧ ∃ acc, H' D = some (.lst acc) ∧ acc.length ≤ j ∧ RpA K (NP N D) H' acc (((ds.take j).filter p).map f)) →
      gName i x (wipe σ [i]) H' fun σ2 H2' => wipe σ2 [i] = wipe σ [i] ∧ tt σ2 H2' fun b H3 => if b = true then tb σ2 H3 fun y H4 => ∃ acc, H4 D = some (.lst acc) ∧ acc.length < sizeLine ∧
        (Ex H2 (upd H4 D (.lst (acc ++ [y]))) ∧ ∃ acc', upd H4 D (.lst (acc ++ [y])) D = some (.lst acc') ∧ acc'.length ≤ j + 1 ∧ RpA K (NP N D) (upd H4 D (.lst (acc ++ [y]))) acc' (((ds.take (j + 1)).filter p).map f))
        else (Ex H2 H3 ∧ ∃ acc, H3 D = some (.lst acc) ∧ acc.length ≤ j + 1 ∧ RpA K (NP N D) H3 acc (((ds.take (j + 1)).filter p).map f)) := by
    intro D hD j x H' hj ⟨ex, acc, ha, hal, hr⟩
    obtain ⟨e, hej, re⟩ := ra.at hj
    have hm : e ∈ ds := List.mem_of_getElem? hej
    have hjl : j < ds.length := (List.getElem?_eq_some_iff.mp hej).1
    refine ⟨hw x, (ht e hm x H' (e12.tr ex) (re.ex ex)).go fun H3 e3 => ?_⟩
    rw [take_fm hej]
    cases c : p e with
    | true =>
      refine iteT ?_
      have reD : Rp K (NP Ni D) H3 x e := ((re.add hD).ex ex).ex e3
      have nn : ∀ a, NP N D a → H3 a ≠ none := nn_of hN ((e12.tr ex).tr e3) (by rw [e3 _ _ ha]; exact fun z => by cases z)
      refine (he D H2 e12 hD e hm c x H3 (ex.tr e3) nn reD).go fun y H4 e4 ry => ?_
      have ha4 := e4 _ _ (e3 _ _ ha)
      refine ⟨acc, ha4, sz_nat (by omega), ex_updN ((ex.tr e3).tr e4) hD, _, upd_same, by rw [List.length_append]; simp; omega, ?_⟩
      rw [if_pos rfl]
      exact rpA_snoc ((hr.ex (e3.tr e4)).kp kp_upd) (ry.kp kp_upd)
    | false =>
      refine iteF ?_
      refine ⟨ex.tr e3, acc, e3 _ _ ha, by omega, ?_⟩
      rw [if_neg Bool.false_ne_true, List.append_nil]
      exact hr.ex e3
  have fin : ∀ D, H2 D = none → ∀ H', (Ex H2 H' ∧ ∃ acc, H' D = some (.lst acc) ∧ acc.length ≤ xs.length ∧ RpA K (NP N D) H' acc (((ds.take xs.length).filter p).map f)) → Q (.ref D) H' := by
    intro D hD H' ⟨ex, acc, ha, _, hr⟩
    rw [ra.length, List.take_length] at hr
    refine q _ _ (e2.tr ex) (.lst (SqL.of ha) (fun z => hN D z (e12.back hD)) (hr.wk fun a h => .inl h))
  rcases hs with hs | hs
  · exact ⟨a, rfl, .inl ⟨⟨xs, hs⟩, fun D hD => lc_list (xs := xs) (fun j H' => Ex H2 H' ∧ ∃ acc, H' D = some (.lst acc) ∧ acc.length ≤ j ∧ RpA K (NP N D) H' acc (((ds.take j).filter p).map f))
      ⟨ex_new hD, [], upd_same, Nat.le_refl _, .nil⟩ (fun j H' _ h => Evl.ex_l h.1 hs) (fun j x H' hj h => core D hD j x H' hj h) (fun H' h => fin D hD H' h)⟩⟩
  · exact ⟨a, rfl, .inr ⟨⟨xs, hs⟩, fun D hD => lc_tup (xs := xs) (fun j H' => Ex H2 H' ∧ ∃ acc, H' D = some (.lst acc) ∧ acc.length ≤ j ∧ RpA K (NP N D) H' acc (((ds.take j).filter p).map f))
      ⟨ex_new hD, [], upd_same, Nat.le_refl _, .nil⟩ (fun j H' _ h => Evl.ex_t h.1 hs) (fun j x H' hj h => core D hD j x H' hj h) (fun H' h => fin D hD H' h)⟩⟩
/-- a pure list of truths, for all(..) -/
theorem rpA_bools : ∀ {vs : List V} {bs : List Bool}, RpA K N H vs (bs.map PyData.bool) → vs = bs.map V.bl
  | _, [], .nil => rfl
  | _, b :: bs, .cons a r => by
    cases a
    rw [rpA_bools r]
    rfl
theorem ve_all {te : TE} {bs : List Bool} (h : VE K N te σ H (.list (bs.map PyData.bool))) : VE K N (tCB (rAll K) (tCons te tNil)) σ H (.bool (bs.all id)) := by
  intro H1 e1 Q q
  refine h H1 e1 _ fun v H2 e2 rv => ?_
  obtain ⟨a, xs, rfl, hs, _, ra⟩ := rv.seq rfl
  rw [rpA_bools ra] at hs
  have hl : SqL K H2 a (bs.map V.bl) := by
    cases rv with
    | lstc h' _ r' =>
      rw [rpA_bools r'] at h'
      exact h'
  exact ⟨a, bs, rfl, hl, q _ _ e2 (.bl _)⟩
end
end DL

set_option Elab.async false
set_option linter.all false
set_option maxRecDepth 100000
set_option maxHeartbeats 4000000
/-! readings of pure expressions over data -/
namespace DL
open PySem PySem.Spec PyProof.Rows L2
section
variable {K : PySem.W.Frag} {N : Addr → Prop} {σ : L2.St} {H : Hp} {te ta tb ti : TE} {t u : TT} {d e : PyData} {i j : Int} {b c : Bool}
/-! ### values -/
theorem VE.n0 (h : VE K N te σ H d) : VE K N0 te σ H d := fun H1 e Q q => h H1 e Q fun v H' e' r => q v H' e' r.n0
theorem ve_ln {ds : List PyData} (h : VE K N te σ H d) (hs : seqOf d = some ds) : VE K N (tLn K te) σ H (.int ds.length) := fun H1 e1 Q q =>
  h H1 e1 _ fun v H2 e2 r => ⟨d, ds, r.n0, hs, q _ _ e2 (.int _)⟩
theorem ve_sq (h : VE K N te σ H d) : VE K N (tSq K te) σ H (.bool (seqOf d).isSome) := fun H1 e1 Q q =>
  h H1 e1 _ fun v H2 e2 r => ⟨d, r.n0, fun H3 e3 => q _ _ (e2.tr e3) (.bl _)⟩
theorem ve_at {ds : List PyData} {n : Nat} {z : PyData} {N' : Addr → Prop} (ha : VE K N ta σ H d) (hi : VE K N' ti σ H (.int n)) (hs : seqOf d = some ds) (hz : ds[n]? = some z) : VE K N (tAt K ta ti) σ H z := fun H1 e1 Q q =>
  ha H1 e1 _ fun v H2 e2 r => hi H2 (e1.tr e2) _ fun u H3 e3 r3 => ⟨N, d, ds, n, z, (r.ex e3), hs, rp_int r3, hz, fun v' r' => q _ _ (e2.tr e3) r'⟩
theorem ve_I0 {g : Int → Int → V} {k : Int → Int → PyData} (ha : VE K N ta σ H (.int i)) (hb : VE K N tb σ H (.int j)) (hg : ∀ H', Rp K N H' (g i j) (k i j)) : VE K N (tOp (rI0 g) ta tb) σ H (k i j) := fun H1 e1 Q q =>
  ha H1 e1 _ fun v H2 e2 r => hb H2 (e1.tr e2) _ fun u H3 e3 r3 => by
    cases rp_int r
    cases rp_int r3
    exact ⟨i, j, rfl, rfl, q _ _ (e2.tr e3) (hg _)⟩
theorem ve_add (ha : VE K N ta σ H (.int i)) (hb : VE K N tb σ H (.int j)) : VE K N (tOp (rI0 fun i j => .int (i + j)) ta tb) σ H (.int (i + j)) := ve_I0 (k := fun i j => .int (i + j)) ha hb fun _ => .int _
theorem ve_sub (ha : VE K N ta σ H (.int i)) (hb : VE K N tb σ H (.int j)) : VE K N (tOp (rI0 fun i j => .int (i - j)) ta tb) σ H (.int (i - j)) := ve_I0 (k := fun i j => .int (i - j)) ha hb fun _ => .int _
theorem ve_cmp {g : Int → Int → Bool} (ha : VE K N ta σ H (.int i)) (hb : VE K N tb σ H (.int j)) : VE K N (tOp (rI0 fun i j => .bl (g i j)) ta tb) σ H (.bool (g i j)) := ve_I0 (g := fun i j => .bl (g i j)) (k := fun i j => .bool (g i j)) ha hb fun _ => .bl _
theorem ve_I {C : Int → Int → Prop} {g : Int → Int → Int} (ha : VE K N ta σ H (.int i)) (hb : VE K N tb σ H (.int j)) (hc : C i j) : VE K N (tOp (rI C fun i j => .int (g i j)) ta tb) σ H (.int (g i j)) := fun H1 e1 Q q =>
  ha H1 e1 _ fun v H2 e2 r => hb H2 (e1.tr e2) _ fun u H3 e3 r3 => by
    cases rp_int r
    cases rp_int r3
    exact ⟨i, j, rfl, rfl, hc, q _ _ (e2.tr e3) (.int _)⟩
theorem ve_chain {g g' : Int → Int → Bool} {l : Int} {tc : TE} (ha : VE K N ta σ H (.int i)) (hb : VE K N tb σ H (.int j)) (hc : VE K N tc σ H (.int l)) : VE K N (tChain (rI0 fun i j => .bl (g i j)) (rI0 fun i j => .bl (g' i j)) ta tb tc) σ H (.bool (g i j && g' j l)) := fun H1 e1 Q q =>
  ha H1 e1 _ fun v H2 e2 r => hb H2 (e1.tr e2) _ fun u H3 e3 r3 => by
    cases rp_int r
    cases rp_int r3
    refine ⟨i, j, rfl, rfl, g i j, rfl, ?_⟩
    cases c : g i j with
    | true => exact iteT (hc H3 ((e1.tr e2).tr e3) _ fun w H4 e4 r4 => by
        cases rp_int r4
        refine ⟨j, l, rfl, rfl, ?_⟩
        have z := q (.bl (g' j l)) H4 ((e2.tr e3).tr e4)
        rw [c, Bool.true_and] at z
        exact z (.bl _))
    | false =>
      have z := q (.bl false) H3 (e2.tr e3)
      rw [c, Bool.false_and] at z
      exact iteF (z (.bl _))
theorem ve_notV (h : VE K N te σ H (.bool b)) : VE K N (tNotV te) σ H (.bool (!b)) := fun H1 e1 Q q =>
  h H1 e1 _ fun v H2 e2 r => by
    cases r
    exact ⟨b, rfl, q _ _ e2 (.bl _)⟩
theorem ve_andV (h : VE K N ta σ H (.bool b)) (h2 : b = true → VE K N tb σ H (.bool c)) : VE K N (tAndV ta tb) σ H (.bool (b && c)) := fun H1 e1 Q q =>
  h H1 e1 _ fun v H2 e2 r => by
    cases r
    refine ⟨b, rfl, ?_⟩
    cases b with
    | true => exact iteT (h2 rfl H2 (e1.tr e2) _ fun v H3 e3 r3 => q _ _ (e2.tr e3) r3)
    | false => exact iteF (q _ _ e2 (.bl _))
/-- a call of a def that keeps a pure promise -/
theorem ve_call {sp : Sp} {tl : TA} {ds : List PyData} {E : XK} (h : VR K N tl σ H ds) (hs : ∀ vs H1, Ex H H1 → RpA K N H1 vs ds → vs.length = ds.length → ∀ Q : VK, (∀ v H', Ex H1 H' → Rp K N H' v d → Q v H') → sp vs H1 Q E) : VE K N (tCall sp [] E tl) σ H d := fun H1 e1 Q q =>
  h H1 e1 _ fun vs H2 e2 rs hl => by
    rw [List.append_nil]
    exact hs vs H2 (e1.tr e2) rs hl Q fun v H3 e3 r => q v H3 (e2.tr e3) r
theorem vr1 (h : VE K N te σ H d) : VR K N (tCons te tNil) σ H [d] := vr_cons h vr_nil
theorem vr2 (h : VE K N ta σ H d) (h2 : VE K N tb σ H e) : VR K N (tCons ta (tCons tb tNil)) σ H [d, e] := vr_cons h (vr1 h2)
/-! ### tests -/
theorem ax_val (h : VE K N0 te σ H (.bool b)) : AX (tB te) σ H b := fun H1 e1 Q q => h H1 e1 _ fun v H2 e2 r => by
  cases r
  exact ⟨b, rfl, q _ e2⟩
theorem ax_test (h : VE K N0 te σ H (.bool b)) : AX (tTest te) σ H b := fun H1 e1 Q q => h H1 e1 _ fun v H2 e2 r => by
  cases r
  exact ⟨b, rfl, q _ e2⟩
theorem ax_not (h : AX t σ H b) : AX (tNot t) σ H (!b) := fun H1 e1 Q q => h H1 e1 _ fun H2 e2 => q _ e2
theorem ax_or (h : AX t σ H b) (h2 : b = false → AX u σ H c) : AX (tOr t u) σ H (b || c) := fun H1 e1 Q q => h H1 e1 _ fun H2 e2 => by
  cases b with
  | true =>
    show (if true = true then Q true H2 else u σ H2 Q)
    exact iteT (q _ e2)
  | false =>
    show (if false = true then Q true H2 else u σ H2 Q)
    exact iteF (h2 rfl H2 (e1.tr e2) _ fun H3 e3 => q _ (e2.tr e3))
theorem ax_and (h : AX t σ H b) (h2 : b = true → AX u σ H c) : AX (tAnd t u) σ H (b && c) := fun H1 e1 Q q => h H1 e1 _ fun H2 e2 => by
  cases b with
  | true =>
    show (if true = true then u σ H2 Q else Q false H2)
    exact iteT (h2 rfl H2 (e1.tr e2) _ fun H3 e3 => q _ (e2.tr e3))
  | false =>
    show (if false = true then u σ H2 Q else Q false H2)
    exact iteF (q _ e2)
def scalD : PyData → Bool
  | .none => true
  | .bool _ => true
  | .int _ => true
  | .str _ => true
  | _ => false
theorem ve_neI (ha : VE K N ta σ H (.int i)) (hb : VE K N tb σ H (.int j)) : VE K N (tOp rNe ta tb) σ H (.bool (!decide (i = j))) := fun H1 e1 Q q =>
  ha H1 e1 _ fun v H2 e2 r => hb H2 (e1.tr e2) _ fun u H3 e3 r3 => by
    cases rp_int r
    cases rp_int r3
    refine ⟨rfl, ?_⟩
    have e : decide (V.int i = V.int j) = decide (i = j) := decide_eq_decide.mpr ⟨V.int.inj, congrArg _⟩
    rw [e]
    exact q _ _ (e2.tr e3) (.bl _)
theorem ve_eqI (ha : VE K N ta σ H (.int i)) (hb : VE K N tb σ H (.int j)) : VE K N (tOp rEq ta tb) σ H (.bool (decide (i = j))) := fun H1 e1 Q q =>
  ha H1 e1 _ fun v H2 e2 r => hb H2 (e1.tr e2) _ fun u H3 e3 r3 => by
    cases rp_int r
    cases rp_int r3
    refine ⟨rfl, ?_⟩
    have e : decide (V.int i = V.int j) = decide (i = j) := decide_eq_decide.mpr ⟨V.int.inj, congrArg _⟩
    rw [e]
    exact q _ _ (e2.tr e3) (.bl _)
/-! ### statements -/
variable {D : Ends} {r s1 s2 : TS}
theorem sx_if (h : AX t σ H b) (h1 : b = true → ∀ H', Ex H H' → s1 { D with nx := r D } σ H') (h2 : b = false → ∀ H', Ex H H' → s2 { D with nx := r D } σ H') : tSeq (tIfS t s1 s2) r D σ H := h.go fun H1 e1 => by
  cases b with
  | true =>
    show (if true = true then s1 { D with nx := r D } σ H1 else s2 { D with nx := r D } σ H1)
    exact iteT (h1 rfl H1 e1)
  | false =>
    show (if false = true then s1 { D with nx := r D } σ H1 else s2 { D with nx := r D } σ H1)
    exact iteF (h2 rfl H1 e1)
theorem sx_ifN (h : AX t σ H b) (h1 : b = true → ∀ H', Ex H H' → s1 { D with nx := r D } σ H') (h2 : b = false → ∀ H', Ex H H' → r D σ H') : tSeq (tIfS t s1 tNext) r D σ H := sx_if h h1 h2
theorem sx_ret (h : VE K N te σ H d) (k : ∀ v H', Ex H H' → Rp K N H' v d → D.rt v H') : tRet te D σ H := h.go k
theorem sx_set {n : Nat} (h : VE K N te σ H d) (k : ∀ v H', Ex H H' → Rp K N H' v d → r D (σ.set n (some v)) H') : tSeq (tAsg te (gName n)) r D σ H := h.go k
end
end DL

set_option Elab.async false
set_option linter.all false
set_option maxRecDepth 100000
set_option maxHeartbeats 4000000
/-! whole numbers, refusals, calls with defaults -/
namespace DL
open PySem PySem.Spec PyProof.Rows L2
def isI : PyData → Bool
  | .int _ => true
  | _ => false
theorem isI_eq (d : PyData) : (isTy "int" d && !isTy "bool" d) = isI d := by
  rw [isTy_int, isTy_bool]
  cases d <;> rfl
theorem isI_int {d : PyData} (h : isI d = true) : ∃ i, d = .int i := by
  cases d <;> first | exact ⟨_, rfl⟩ | cases h
/-- the error at C with the text s for its field f -/
def XF (C : Addr) (f : Str) (H : Hp) (E : XK) (v : V) : Prop := ∀ d H', Ex H H' → H d = none → H' d = some (.xd [(f, v)]) → E (.ref C) (some d) H'
theorem XF.mono {C : Addr} {f : Str} {H H1 : Hp} {E : XK} {v : V} (e : Ex H H1) (h : XF C f H E v) : XF C f H1 E v := fun d H' e1 n a => h d H' (e.tr e1) (e.back n) a
section
variable {K : PySem.W.Frag} {N : Addr → Prop} {σ : L2.St} {H : Hp} {te : TE} {d : PyData} {D : Ends} {C : Addr} {f : Str} {E : XK} {v : V}
theorem rz_x (h : Val te σ H v) (x : XF C f H E v) : tRz C f (fun cls d _ H => E cls d H) te D σ H := h _ fun d H' e n a => x d H' e n a
/-- isinstance(x, T) of a datum, T a built-in type -/
theorem ve_isi {n : String} {ta : TE} (hk : ∀ d : PyData, PySem.W.kitOne K (.type (tyN d)) (.type n) = some (isTy n d)) (h : VE K N ta σ H d) : VE K N (tCB (rIsi K) (tCons ta (tCons (tC (.ty n)) tNil))) σ H (.bool (isTy n d)) := fun H1 e1 Q q =>
  h H1 e1 _ fun v H2 e2 r => ⟨_, _, _, _, _, rfl, .ty _, r.n0.ty, hk d, q _ _ e2 (.bl _)⟩
end
/-- the number, if it is one -/
def iv : PyData → Int
  | .int i => i
  | _ => 0
theorem isI_iv {d : PyData} (h : isI d = true) : d = .int (iv d) := by
  obtain ⟨i, rfl⟩ := isI_int h
  rfl
/-! ### is_integer -/
def spIsInt (K : PySem.W.Frag) : Sp := fun vs H Q _ => ∃ v d, vs = [v] ∧ Rp K N0 H v d ∧ ∀ H', Ex H H' → Q (.bl (isI d)) H'
section
variable {K : PySem.W.Frag} {N : Addr → Prop} {σ : L2.St} {H : Hp} {te : TE} {d : PyData}
theorem ve_isint {N' : Addr → Prop} (E : XK) (h : VE K N te σ H d) : VE K N' (tCall (spIsInt K) [] E (tCons te tNil)) σ H (.bool (isI d)) := fun H1 e1 Q q =>
  h H1 e1 _ fun v H2 e2 r => ⟨v, d, rfl, r.n0, fun H' e => q _ _ (e2.tr e) (.bl _)⟩
end
/-- a def with defaults -/
structure CalD (P : Program) (w : World) (K : PySem.W.Frag) (mg : Str → Option Value) (base : Heap) (k : Nat) (x : Str) (st : Stmt) (dvs : List V) (ps : List Str) (sp : Sp) : Prop where
  ex : ∃ (f : Addr) (fd : FuncData), mg x = some (.ref f) ∧ FunD K x x (defArgs st) (defBody st) (defScope st) dvs [] f fd ∧ FnOk P w K mg base (L2.CX P w) k f fd ps sp
/-- the binding of n written values, the defaults behind the first j -/
def BdD (x : Str) (st : Stmt) (n j m : Nat) (ps : List Str) : Prop := ∀ (T : Addr) (kV doc pm : Value) (an : Option Addr) (cdv ct : Value) (us its : List Value), us.length = n → its.length = m →
      ∃ k, bindArgs (PySem.W.fnOf x x (defArgs st) (defBody st) (defScope st) (.ref T) kV doc pm an cdv ct) ⟨us, []⟩ = seqItems? (.ref T) >>= k ∧ k (some its.toArray) = pure (ps.zip (us ++ its.drop j))
section
variable {X : Cx} {k j : Nat} {x : Str} {st : Stmt} {dvs : List V} {ps : List Str} {sp : Sp} {E : XK} {p pos : Pos} {e : Expr} {es : List Expr} {t : TA}
theorem pe_calD (n i : Nat) (C : CalD X.prog X.w X.K X.mg X.base j x st dvs ps sp) (hd : dvs ≠ []) (hn : n + (dvs.length - i) = ps.length) (bd : BdD x st n i dvs.length ps) (hr : Room k X.A) (hj : j ≤ k) (hx : Passes (L2.CX X.prog X.w) X E) (hg : Gl X x) (ha : PA X (e :: es) t) (hdb : (x == ("__debug__" : Str)) = false := by decide)
    (he : starEach (e :: es) X.env = (false, eval e X.env) :: starEach es X.env := by rfl) (hpl : (backTo pos (starEach es X.env)).any (·.1) = false := by rfl) : PE X (.Call (.Name x p) (e :: es) [] pos) (tCall sp (dvs.drop i) E t) := by
  obtain ⟨f, fd, hm, F, G⟩ := C.ex
  obtain ⟨ds, hv, hb⟩ := F.binds1 n i hd hn bd
  exact pe_call G (hr.mono hj) hg hm F.kp hb hv hx ha hdb he hpl
end
end DL

set_option Elab.async false
set_option linter.all false
set_option maxRecDepth 100000
set_option maxHeartbeats 4000000
/-! loops over data; tuple(..), list(..) -/
namespace DL
open PySem PySem.Spec PyProof.Rows L2
section
variable {K : PySem.W.Frag} {N : Addr → Prop} {σ : L2.St} {H : Hp} {te : TE} {d : PyData} {ds : List PyData} {D : Ends} {tb r : TS}
theorem nb {b : Bool} (h : (!b) = true) : b = false := by cases b <;> first | rfl | cases h
theorem nf {b : Bool} (h : (!b) = false) : b = true := by cases b <;> first | rfl | cases h
theorem nn_ex {H' : Hp} (hN : ∀ a, N a → H a ≠ none) (e : Ex H H') : ∀ a, N a → H' a ≠ none := fun a h => by
  cases c : H a with
  | none => exact absurd c (hN a h)
  | some o => rw [e _ _ c]; exact fun z => by cases z
theorem sq_forD {i : Nat} (hx : VE K N te σ H d) (hseq : seqOf d = some ds) (Pv : Nat → L2.St → Hp → Prop) (h0 : ∀ H1, Ex H H1 → Pv 0 σ H1)
    (hs : ∀ H1, Ex H H1 → ∀ (j : Nat) (e : PyData) (v : V) (σ' : L2.St) (H' : Hp), ds[j]? = some e → Kp N H1 H' → Pv j σ' H' → Rp K N H' v e → tb { D with nx := fun σ2 H2 => Kp N H1 H2 ∧ Pv (j + 1) σ2 H2, ct := fun σ2 H2 => Kp N H1 H2 ∧ Pv (j + 1) σ2 H2, bk := r D } (σ'.set i (some v)) H')
    (hd : ∀ H1, Ex H H1 → ∀ σ' H', Kp N H1 H' → Pv ds.length σ' H' → r D σ' H') : tSeq (tFor (iDat K te) (gName i) tb) r D σ H := by
  refine hx H (ex_refl H) _ fun x H1 e1 rx => ?_
  cases rx with
  | @lstc a xs ds' h n ra =>
    have e := Option.some.inj hseq
    subst e
    refine ⟨a, rfl, .inl ⟨⟨xs, h⟩, for_list (xs := xs) (D := { D with nx := r D }) (fun j σ' H' => Kp N H1 H' ∧ Pv j σ' H') ⟨Kp.refl N H1, h0 H1 e1⟩ (fun j σ' H' _ p => n.elim (fun n => kp_l p.1 n h) .inr) (fun j x σ' H' hj p => ?_) (fun σ' H' p => ?_)⟩⟩
    · obtain ⟨e, he, re⟩ := ra.at hj
      exact hs H1 e1 j e x σ' H' he p.1 p.2 (re.kp p.1)
    · rw [ra.length] at p
      exact hd H1 e1 σ' H' p.1 p.2
  | @tupc a xs ds' h n ra =>
    have e := Option.some.inj hseq
    subst e
    refine ⟨a, rfl, .inr ⟨⟨xs, h⟩, for_tup (xs := xs) (D := { D with nx := r D }) (fun j σ' H' => Kp N H1 H' ∧ Pv j σ' H') ⟨Kp.refl N H1, h0 H1 e1⟩ (fun j σ' H' _ p => n.elim (fun n => kp_t p.1 n h) .inr) (fun j x σ' H' hj p => ?_) (fun σ' H' p => ?_)⟩⟩
    · obtain ⟨e, he, re⟩ := ra.at hj
      exact hs H1 e1 j e x σ' H' he p.1 p.2 (re.kp p.1)
    · rw [ra.length] at p
      exact hd H1 e1 σ' H' p.1 p.2
  | _ => cases hseq
/-- tuple(x) -/
theorem ve_tupof (hN : ∀ a, N a → H a ≠ none) (h : VE K N te σ H d) (hs : seqOf d = some ds) :
    VE K N (tCB (fun xs H Q => ∃ p ys, xs = [V.ref p] ∧ ((SqL K H p ys ∧ ∀ l, H l = none → Q (.ref l) (upd H l (.tup ys))) ∨ (SqT K H p ys ∧ Q (.ref p) H))) (tCons te tNil)) σ H (.tuple ds) := fun H1 e1 Q q =>
  h H1 e1 _ fun v H2 e2 rv => by
    cases rv with
    | lstc hh n ra =>
      have e := Option.some.inj hs
      subst e
      exact ⟨_, _, rfl, .inl ⟨hh, fun l hl => q _ _ (e2.tr (ex_new hl)) (.tup (SqT.of upd_same) (fun z => hN l z ((e1.tr e2).back hl)) (ra.ex (ex_new hl)))⟩⟩
    | tupc hh n ra =>
      have e := Option.some.inj hs
      subst e
      exact ⟨_, _, rfl, .inr ⟨hh, q _ _ e2 (.tupc hh n ra)⟩⟩
    | _ => cases hs
theorem rpA_ints {N' : Addr → Prop} {H' : Hp} {vs : List V} {ds : List PyData} (h : ∀ e ∈ ds, isI e = true) (r : RpA K N H vs ds) : RpA K N' H' vs ds := by
  induction ds generalizing vs with
  | nil =>
    cases r
    exact .nil
  | cons d ds ih =>
    cases r with
    | cons a b =>
      obtain ⟨i, rfl⟩ := isI_int (h d (List.mem_cons_self))
      cases rp_int a
      exact .cons (.int i) (ih (fun e he => h e (List.mem_cons_of_mem _ he)) b)
/-- tuple(x), x a list of whole numbers: nothing of it is shared -/
theorem ve_tupofI {Ni : Addr → Prop} (hN : ∀ a, N a → H a ≠ none) (h : VE K Ni te σ H (.list ds)) (hi : ∀ e ∈ ds, isI e = true) :
    VE K N (tCB (fun xs H Q => ∃ p ys, xs = [V.ref p] ∧ ((SqL K H p ys ∧ ∀ l, H l = none → Q (.ref l) (upd H l (.tup ys))) ∨ (SqT K H p ys ∧ Q (.ref p) H))) (tCons te tNil)) σ H (.tuple ds) := fun H1 e1 Q q =>
  h H1 e1 _ fun v H2 e2 rv => by
    cases rv with
    | lstc hh n ra => exact ⟨_, _, rfl, .inl ⟨hh, fun l hl => q _ _ (e2.tr (ex_new hl)) (.tup (SqT.of upd_same) (fun z => hN l z ((e1.tr e2).back hl)) (rpA_ints hi ra))⟩⟩
/-- list(x) -/
theorem ve_listofI {Ni : Addr → Prop} (hN : ∀ a, N a → H a ≠ none) (h : VE K Ni te σ H d) (hs : seqOf d = some ds) (hi : ∀ e ∈ ds, isI e = true) :
    VE K N (tCB (fun xs H Q => ∃ p ys, xs = [V.ref p] ∧ (SqL K H p ys ∨ SqT K H p ys) ∧ ∀ l, H l = none → Q (.ref l) (upd H l (.lst ys))) (tCons te tNil)) σ H (.list ds) := fun H1 e1 Q q =>
  h H1 e1 _ fun v H2 e2 rv => by
    obtain ⟨a, xs, rfl, hx, _, ra⟩ := rv.seq hs
    exact ⟨a, xs, rfl, hx, fun l hl => q _ _ (e2.tr (ex_new hl)) (.lst (SqL.of upd_same) (fun z => hN l z ((e1.tr e2).back hl)) (rpA_ints hi ra))⟩
theorem ve_listof (hN : ∀ a, N a → H a ≠ none) (h : VE K N te σ H d) (hs : seqOf d = some ds) :
    VE K N (tCB (fun xs H Q => ∃ p ys, xs = [V.ref p] ∧ (SqL K H p ys ∨ SqT K H p ys) ∧ ∀ l, H l = none → Q (.ref l) (upd H l (.lst ys))) (tCons te tNil)) σ H (.list ds) := fun H1 e1 Q q =>
  h H1 e1 _ fun v H2 e2 rv => by
    obtain ⟨a, xs, rfl, hx, _, ra⟩ := rv.seq hs
    exact ⟨a, xs, rfl, hx, fun l hl => q _ _ (e2.tr (ex_new hl)) (.lst (SqL.of upd_same) (fun z => hN l z ((e1.tr e2).back hl)) (ra.ex (ex_new hl)))⟩
/-- len(x) by the builtin's own rule -/
abbrev rLenD (K : PySem.W.Frag) : List V → Hp → VK → Prop := fun vs H Q => ∃ x n, vs = [x] ∧ LenV K x H n ∧ Q (.int n) H
theorem ve_lenC (h : VE K N te σ H d) (hs : seqOf d = some ds) : VE K N (tCB (rLenD K) (tCons te tNil)) σ H (.int ds.length) := fun H1 e1 Q q =>
  h H1 e1 _ fun v H2 e2 rv => by
    obtain ⟨a, xs, rfl, hx, _, ra⟩ := rv.seq hs
    refine ⟨_, ds.length, rfl, ?_, q _ _ e2 (.int _)⟩
    rcases hx with hx | hx
    · exact .inl ⟨_, hx, ra.length.symm⟩
    · exact .inr ⟨_, hx, ra.length.symm⟩
end
abbrev rTupD (K : PySem.W.Frag) : List V → Hp → VK → Prop := fun xs H Q => ∃ p ys, xs = [V.ref p] ∧ ((SqL K H p ys ∧ ∀ l, H l = none → Q (.ref l) (upd H l (.tup ys))) ∨ (SqT K H p ys ∧ Q (.ref p) H))
abbrev rLstD (K : PySem.W.Frag) : List V → Hp → VK → Prop := fun xs H Q => ∃ p ys, xs = [V.ref p] ∧ (SqL K H p ys ∨ SqT K H p ys) ∧ ∀ l, H l = none → Q (.ref l) (upd H l (.lst ys))
/-! ### the same rules with K written, for blocks of comprehensions -/
section
variable {X : Cx} {e : Expr} {te : TE} {p pos : Pos}
theorem pe_tupD (K : PySem.W.Frag) (hg : Gl X "tuple") (m : X.mg "tuple" = none) (he : PE X e te) (hK : X.K = K := by rfl) (hs : starEach (e :: []) X.env = (false, eval e X.env) :: starEach [] X.env := by rfl) (hpl : (backTo pos (starEach [] X.env)).any (·.1) = false := by rfl) :
    PE X (.Call (.Name "tuple" p) [e] [] pos) (tCB (rTupD K) (tCons te tNil)) := hK ▸ pe_callTy call_tuple_of hg m (by decide +kernel) (pa_cons he pa_nil hs) (he := hs) (hpl := hpl)
theorem pe_lstD (K : PySem.W.Frag) (hg : Gl X "list") (m : X.mg "list" = none) (he : PE X e te) (hK : X.K = K := by rfl) (hs : starEach (e :: []) X.env = (false, eval e X.env) :: starEach [] X.env := by rfl) (hpl : (backTo pos (starEach [] X.env)).any (·.1) = false := by rfl) :
    PE X (.Call (.Name "list" p) [e] [] pos) (tCB (rLstD K) (tCons te tNil)) := hK ▸ pe_callTy call_list_of hg m (by decide +kernel) (pa_cons he pa_nil hs) (he := hs) (hpl := hpl)
theorem pe_lenD (K : PySem.W.Frag) (hg : Gl X "len") (m : X.mg "len" = none) (he : PE X e te) (hK : X.K = K := by rfl) (hs : starEach (e :: []) X.env = (false, eval e X.env) :: starEach [] X.env := by rfl) (hpl : (backTo pos (starEach [] X.env)).any (·.1) = false := by rfl) :
    PE X (.Call (.Name "len" p) [e] [] pos) (tCB (rLenD K) (tCons te tNil)) := hK ▸ pe_callB call_len hg m (by decide +kernel) (pa_cons he pa_nil hs) (he := hs) (hpl := hpl)
theorem pe_allD (K : PySem.W.Frag) (hc : X.calm = true) (hg : Gl X "all") (m : X.mg "all" = none) (he : PE X e te) (hK : X.K = K := by rfl) (hs : starEach (e :: []) X.env = (false, eval e X.env) :: starEach [] X.env := by rfl) (hpl : (backTo pos (starEach [] X.env)).any (·.1) = false := by rfl) :
    PE X (.Call (.Name "all" p) [e] [] pos) (tCB (rAll K) (tCons te tNil)) := hK ▸ pe_callB (cr_all hc) hg m (by decide +kernel) (pa_cons he pa_nil hs) (he := hs) (hpl := hpl)
theorem pe_atD (K : PySem.W.Frag) {ei : Expr} {ti : TE} (he : PE X e te) (hi : PE X ei ti) (hs : PlainIx ei) (hK : X.K = K := by rfl) : PE X (.Subscript e ei pos) (tAt K te ti) := hK ▸ pe_at he hi hs
theorem pi_datD (K : PySem.W.Frag) {tg l : Expr} {tl : TE} (hl : PE X l tl) (hK : X.K = K := by rfl) : PI X tg l (iDat K tl) := hK ▸ pi_dat hl
end
end DL

set_option Elab.async false
set_option linter.all false
set_option maxRecDepth 100000
set_option maxHeartbeats 4000000
/-! what draws: data made with the pen -/
namespace DL
open PySem PySem.Spec PyProof.Rows L2
section
variable {K : PySem.W.Frag} {N : Addr → Prop} {pn c0 : Addr} {cells : List Int} {σ : L2.St} {H H1 : Hp} {a l n m : Int} {te tb : TE} {ta : TA}
/-- N holds pn, and else only what stands there and is no table -/
def NG (N : Addr → Prop) (pn : Addr) (H : Hp) : Prop := N pn ∧ ∀ b, N b → b = pn ∨ ∃ o, H b = some o ∧ ∀ ps, o ≠ .tbl ps
theorem NG.kp (h : NG N pn H) (k : Kp (N1 pn) H H1) : NG N pn H1 := ⟨h.1, fun b hb => by
  rcases h.2 b hb with e | ⟨o, e, t⟩
  · exact .inl e
  · by_cases c : b = pn
    · exact .inl c
    · exact .inr ⟨o, k _ _ e c t, t⟩⟩
theorem NG.nn (h : NG N pn H) (p : Pen H pn c0 cells a l) : ∀ b, N b → H b ≠ none := fun b hb => by
  rcases h.2 b hb with e | ⟨o, e, _⟩
  · rw [e, p.p]
    exact fun z => by cases z
  · rw [e]
    exact fun z => by cases z
theorem NG.one : NG (N1 pn) pn H := ⟨rfl, fun b hb => .inl hb⟩
theorem NG.add {D : Addr} {xs : List V} (h : NG N pn H) (hD : H D = some (.lst xs)) : NG (NP N D) pn H := ⟨.inl h.1, fun b hb => by
  rcases hb with hb | hb
  · exact h.2 b hb
  · exact .inr ⟨_, by rw [hb]; exact hD, fun ps z => by cases z⟩⟩
theorem Kp.wk {N' : Addr → Prop} (k : Kp N H H1) (h : ∀ b, N b → N' b) : Kp N' H H1 := fun b o e n t => k b o e (fun z => n (h b z)) t
theorem NG.k (h : NG N pn H) (k : Kp (N1 pn) H H1) : Kp N H H1 := k.wk fun b hb => by rw [show b = pn from hb]; exact h.1
theorem Pen.kp0 (p : Pen H pn c0 cells a l) (e : Ex H H1) : Kp (N1 pn) H H1 := Kp.of e
def VP (K : PySem.W.Frag) (N : Addr → Prop) (pn c0 : Addr) (cells : List Int) (te : TE) (σ : L2.St) (H : Hp) (a : Int) (n : Int) (P : PyData → Prop) : Prop :=
  ∀ Q : VK, (∀ v d a' l' H2, P d → Rp K N H2 v d → ExB pn H H2 → Pen H2 pn c0 cells a' l' → a ≤ a' → a' ≤ a + n → Q v H2) → te σ H Q
def VPA (K : PySem.W.Frag) (N : Addr → Prop) (pn c0 : Addr) (cells : List Int) (ta : TA) (σ : L2.St) (H : Hp) (a : Int) (n : Int) (P : List PyData → Prop) : Prop :=
  ∀ Q : List V → Hp → Prop, (∀ vs ds a' l' H2, P ds → RpA K N H2 vs ds → vs.length = ds.length → ExB pn H H2 → Pen H2 pn c0 cells a' l' → a ≤ a' → a' ≤ a + n → Q vs H2) → ta σ H Q
theorem vp_of {d : PyData} (h : VE K N te σ H d) (p : Pen H pn c0 cells a l) (hn : 0 ≤ n) : VP K N pn c0 cells te σ H a n (fun e => e = d) := fun Q q =>
  h.go fun v H2 e r => q v d a l H2 rfl r (ExB.of e) (p.ex e) (Int.le_refl _) (by omega)
theorem VP.imp {P P' : PyData → Prop} {n' : Int} (h : VP K N pn c0 cells te σ H a n P) (hp : ∀ d, P d → P' d) (hn : n ≤ n') : VP K N pn c0 cells te σ H a n' P' := fun Q q =>
  h Q fun v d a' l' H2 pd r k p b c => q v d a' l' H2 (hp d pd) r k p b (by omega)
theorem vpa_nil (p : Pen H pn c0 cells a l) : VPA K N pn c0 cells tNil σ H a 0 (fun ds => ds = []) := fun Q q => q [] [] a l H rfl .nil rfl (ExB.refl _ _) p (Int.le_refl _) (by omega)
theorem vpa_cons {P : PyData → Prop} {Ps : List PyData → Prop} (g : NG N pn H) (h : VP K N pn c0 cells te σ H a n P) (r : ∀ H2 a' l', ExB pn H H2 → Pen H2 pn c0 cells a' l' → a ≤ a' → a' ≤ a + n → VPA K N pn c0 cells ta σ H2 a' m Ps) :
    VPA K N pn c0 cells (tCons te ta) σ H a (n + m) (fun ds => ∃ d ds', ds = d :: ds' ∧ P d ∧ Ps ds') := fun Q q =>
  h _ fun v d a' l' H2 pd rd k p b c => r H2 a' l' k p b c _ fun vs ds a2 l2 H3 pds rds hl k3 p3 b3 c3 =>
    q (v :: vs) (d :: ds) a2 l2 H3 ⟨d, ds, rfl, pd, pds⟩ (.cons (rd.kp ((g.kp k.kp).k k3.kp)) rds) (by rw [List.length_cons, List.length_cons, hl]) (k.tr k3) p3 (by omega) (by omega)
theorem vp_lst {Ps : List PyData → Prop} (g : NG N pn H) (h : VPA K N pn c0 cells ta σ H a n Ps) (hl : ∀ ds, Ps ds → ds.length ≤ 1000) : VP K N pn c0 cells (tLst ta) σ H a n (fun d => ∃ ds, d = .list ds ∧ Ps ds) := fun Q q =>
  h _ fun vs ds a' l' H2 pd r hn k p b c => ⟨by rw [hn]; exact Nat.le_trans (hl ds pd) (by decide), fun D hD => q _ _ a' l' _ ⟨ds, rfl, pd⟩ (.lst (SqL.of upd_same) (fun z => (g.kp k.kp).nn p D z hD) (r.ex (ex_new hD))) (k.tr (ExB.of (ex_new hD))) (p.ex (ex_new hD)) b c⟩
theorem vp_tup {Ps : List PyData → Prop} (g : NG N pn H) (h : VPA K N pn c0 cells ta σ H a n Ps) (hl : ∀ ds, Ps ds → ds.length ≤ 1000) : VP K N pn c0 cells (tTup ta) σ H a n (fun d => ∃ ds, d = .tuple ds ∧ Ps ds) := fun Q q =>
  h _ fun vs ds a' l' H2 pd r hn k p b c => ⟨by rw [hn]; exact Nat.le_trans (hl ds pd) (by decide), fun D hD => q _ _ a' l' _ ⟨ds, rfl, pd⟩ (.tup (SqT.of upd_same) (fun z => (g.kp k.kp).nn p D z hD) (r.ex (ex_new hD))) (k.tr (ExB.of (ex_new hD))) (p.ex (ex_new hD)) b c⟩
/-- a draw -/
theorem vp_draw {tp tm : TE} {many : Int} {E : XK} (hp : Val tp σ H (.ref pn)) (hm : Val tm σ H (.int many)) (p : Pen H pn c0 cells a l) (h1 : a < 100000) (h2 : 0 < many) (h3 : many.natAbs < 2 ^ 8000) :
    VP K N pn c0 cells (tCall spDraw [] E (tCons tp (tCons tm tNil))) σ H a 1 (fun d => ∃ k : Int, d = .int k ∧ 0 ≤ k ∧ k < many) := fun Q q =>
  te_call (sp := spDraw) (va2 hp hm) ⟨pn, c0, cells, a, l, many, rfl, p, h1, h2, h3, fun d a' l' H' d0 d1 b c e p' => q _ _ a' l' H' ⟨d, rfl, d0, d1⟩ (.int d) e p' b c⟩
theorem wipe1 {i : Nat} {v : V} : wipe ((wipe σ [i]).set i (some v)) [i] = wipe σ [i] := by
  show ((σ.set i none).set i (some v)).set i none = σ.set i none
  simp
/-- [f(j) for j in range(n)], f draws -/
theorem vp_lc {i k : Nat} {tn : TE} {P : PyData → Prop} (g : NG N pn H) (p : Pen H pn c0 cells a l) (hn : Val tn σ H (.int k)) (hk : k ≤ 100000) (hm : 0 ≤ m)
    (he : ∀ (D : Addr) (xs : List V) (H1 : Hp) (a' l' : Int) (j : Nat), ExB pn H H1 → H D = none → H1 D = some (.lst xs) → NG (NP N D) pn H1 → Pen H1 pn c0 cells a' l' → a ≤ a' → a' ≤ a + j * m → j < k → VP K (NP N D) pn c0 cells tb ((wipe σ [i]).set i (some (.int j))) H1 a' m P) :
    VP K N pn c0 cells (tLc (iRng1 (tCons tn tNil)) (gName i) tYes tb [i]) σ H a (k * m) (fun d => ∃ ds, d = .list ds ∧ ds.length = k ∧ ∀ e ∈ ds, P e) := fun Q q => by
  unfold tLc iRng1
  refine va1 hn _ ⟨k, rfl, by omega, by omega, fun D hD => ?_⟩
  rw [show ((k : Int)).toNat = k from rfl]
  have hDp : D ≠ pn := fun z => by rw [z, p.p] at hD; cases hD
  refine lc_range (lo := 0) (n := k) (fun j H' => ExB pn H H' ∧ ∃ acc ds a' l', H' D = some (.lst acc) ∧ acc.length = j ∧ ds.length = j ∧ RpA K (NP N D) H' acc ds ∧ (∀ e ∈ ds, P e) ∧ Pen H' pn c0 cells a' l' ∧ a ≤ a' ∧ a' ≤ a + j * m)
    ⟨ExB.of (ex_new hD), [], [], a, l, upd_same, rfl, rfl, .nil, (fun e he => by cases he), p.ex (ex_new hD), Int.le_refl _, by simp⟩ ?_ ?_
  · rintro j H' hj ⟨kp, acc, ds, a', l', hacc, hal, hdl, hr, hP, p', b, c⟩
    refine ⟨wipe1, ?_⟩
    rw [Int.zero_add]
    have g' : NG (NP N D) pn H' := (g.kp kp.kp).add hacc
    unfold tYes
    dsimp only
    rw [if_pos rfl]
    refine he D acc H' a' l' j kp hD hacc g' p' b c hj _ fun v d a2 l2 H2 pd rd k2 p2 b2 c2 => ?_
    have h2 : H2 D = some (.lst acc) := k2 _ _ hDp hacc
    have kD : ExB pn H (upd H2 D (.lst (acc ++ [v]))) := fun x o n e => by
      rw [upd_ne (ne_of_none e hD)]
      exact (kp.tr k2) x o n e
    have pD : Pen (upd H2 D (.lst (acc ++ [v]))) pn c0 cells a2 l2 := by
      refine ⟨by rw [upd_ne (Ne.symm hDp)]; exact p2.p, ?_, p2.a0, p2.a1, p2.l0, p2.len⟩
      have hc : c0 ≠ D := fun z => by
        have := p.c
        rw [z, hD] at this
        cases this
      rw [upd_ne hc]
      exact p2.c
    refine ⟨acc, h2, sz_nat (by omega), kD, acc ++ [v], ds ++ [d], a2, l2, upd_same, by rw [List.length_append]; simp; omega, by rw [List.length_append]; simp; omega, ?_, ?_, pD, by omega, ?_⟩
    · exact rpA_snoc ((hr.kp (g'.k k2.kp)).kp kp_upd) (rd.kp kp_upd)
    · intro e he
      rcases List.mem_append.mp he with h | h
      · exact hP e h
      · rw [List.mem_singleton.mp h]
        exact pd
    · have e1 : ((j + 1 : Nat) : Int) * m = j * m + m := by rw [Int.natCast_add, Int.add_mul]; simp
      rw [e1]
      omega
  · rintro H' ⟨kp, acc, ds, a', l', hacc, hal, hdl, hr, hP, p', b, c⟩
    exact q _ _ a' l' H' ⟨ds, rfl, hdl, hP⟩ (.lst (SqL.of hacc) (fun z => by
      rcases g.2 D z with e | ⟨o, e, _⟩
      · exact hDp e
      · rw [hD] at e
        cases e) (hr.wk fun b h => .inl h)) kp p' b c
end
end DL

set_option Elab.async false
set_option linter.all false
set_option maxRecDepth 100000
set_option maxHeartbeats 4000000
/-! the pen: what every law's drawing has alike -/
namespace DL
open PySem PySem.Spec PyProof.Rows L2
theorem atI_ints {cells : List Int} {i : Int} (h0 : 0 ≤ i) (h1 : i < cells.length) : ∃ c, atI (cells.map V.int) i = some (.int c) := by
  obtain ⟨n, rfl⟩ : ∃ n : Nat, i = n := ⟨i.toNat, by omega⟩
  have hi : n < cells.length := by omega
  exact ⟨cells[n], atI_nat (by rw [List.getElem?_map, List.getElem?_eq_getElem hi]; rfl)⟩
theorem mod_rng {x m : Int} (h : 0 < m) : 0 ≤ x % m ∧ x % m < m := ⟨Int.emod_nonneg _ (by omega), Int.emod_lt_of_pos _ h⟩
section
variable {K : PySem.W.Frag}
/-- an item of the pen -/
theorem pi0 {σ : L2.St} {H : Hp} {pn c0 : Addr} {a l : Int} (e : σ[0]? = some (some (.ref pn))) (h : H pn = some (.lst [.ref c0, .int a, .int l])) : Val (tOp (rIxL K) (tVar 0) (tC (.int 0))) σ H (.ref c0) := vl_ixL (val_var e) val_c (SqL.of h) (atI_nat (j := 0) rfl)
theorem pi1 {σ : L2.St} {H : Hp} {pn c0 : Addr} {a l : Int} (e : σ[0]? = some (some (.ref pn))) (h : H pn = some (.lst [.ref c0, .int a, .int l])) : Val (tOp (rIxL K) (tVar 0) (tC (.int 1))) σ H (.int a) := vl_ixL (val_var e) val_c (SqL.of h) (atI_nat (j := 1) rfl)
theorem pi2 {σ : L2.St} {H : Hp} {pn c0 : Addr} {a l : Int} (e : σ[0]? = some (some (.ref pn))) (h : H pn = some (.lst [.ref c0, .int a, .int l])) : Val (tOp (rIxL K) (tVar 0) (tC (.int 2))) σ H (.int l) := vl_ixL (val_var e) val_c (SqL.of h) (atI_nat (j := 2) rfl)
theorem cut_ints (ns : List Int) (lo hi : Option Int) : ∃ cs : List Int, cutV (ns.map V.int) lo hi = cs.map V.int ∧ cs.length ≤ ns.length := by
  refine ⟨(ns.drop (HT.sIx ns.length 0 lo)).take (HT.sIx ns.length ns.length hi - HT.sIx ns.length 0 lo), ?_, ?_⟩
  · unfold cutV
    rw [List.length_map, List.map_take, List.map_drop]
  · rw [List.length_take, List.length_drop]
    omega
def spPen (K : PySem.W.Frag) : Sp := fun vs H Q _ => ∃ (p : Addr) (ns : List Int), vs = [.ref p] ∧ SqL K H p (ns.map V.int) ∧ ns.length ≤ 63 ∧ ∀ (pn c0 : Addr) (cells : List Int) (H' : Hp), Ex H H' → H pn = none → Pen H' pn c0 cells 0 0 → Q (.ref pn) H'
def spPick : Sp := fun vs H Q _ => ∃ (pn c0 l : Addr) (xs : List V) (cells : List Int) (a lf : Int), vs = [.ref pn, .ref l] ∧ Pen H pn c0 cells a lf ∧ l ≠ pn ∧ H l = some (.lst xs) ∧ a < 100000 ∧ 0 < xs.length ∧ xs.length ≤ 1000 ∧
  ∀ (v : V) (a' l' : Int) (H' : Hp), v ∈ xs → a ≤ a' → a' ≤ a + 1 → ExB pn H H' → Pen H' pn c0 cells a' l' → Q v H'
/-- a pick from a list just written -/
theorem te_pick {σ : L2.St} {H : Hp} {Q : VK} {E : XK} {pn c0 : Addr} {cells : List Int} {a lf : Int} {ta : TA} {xs : List V} (hv : σ[0]? = some (some (.ref pn))) (hx : VA ta σ H xs) (hp : Pen H pn c0 cells a lf) (ha : a < 100000) (h0 : 0 < xs.length) (h1 : xs.length ≤ 1000)
    (k : ∀ (v : V) (a' l' : Int) (H' : Hp), v ∈ xs → a ≤ a' → a' ≤ a + 1 → ExB pn H H' → Pen H' pn c0 cells a' l' → Q v H') : tCall spPick [] E (tCons (tVar 0) (tCons (tLst ta) tNil)) σ H Q := by
  refine ⟨_, hv, ?_⟩
  refine hx _ ⟨by show xs.length ≤ sizeLine; exact Nat.le_trans h1 (by decide), fun l hl => ?_⟩
  have x1 : Ex H (upd H l (.lst xs)) := ex_new hl
  exact ⟨pn, c0, l, xs, cells, a, lf, rfl, hp.ex x1, (fun z => by rw [z, hp.p] at hl; cases hl), upd_same, ha, h0, h1, fun v a' l' H' hm b0 b1 e p' => k v a' l' H' hm b0 b1 ((ExB.of x1).tr e) p'⟩
theorem n_mul {x y : Int} {a b c : Nat} (hx : x.natAbs < 2 ^ a) (hy : y.natAbs < 2 ^ b) (h : a + b ≤ c) : (x * y).natAbs < 2 ^ c :=
  Nat.lt_of_lt_of_le (wide_lt hx hy) (Nat.pow_le_pow_right (by decide) h)
theorem n_le {x : Int} {a b : Nat} (hx : x.natAbs < 2 ^ a) (h : a ≤ b) : x.natAbs < 2 ^ b := Nat.lt_of_lt_of_le hx (Nat.pow_le_pow_right (by decide) h)
theorem n_lt {x y : Int} {a : Nat} (h0 : 0 ≤ x) (h : x < y) (ha : y.natAbs < 2 ^ a) : x.natAbs < 2 ^ a := Nat.lt_of_le_of_lt (by omega) ha
theorem te_pickR {σ : L2.St} {H : Hp} {Q : VK} {E : XK} {pn c0 : Addr} {cells : List Int} {a lf : Int} {ta : TA} {ds : List PyData} (hv : σ[0]? = some (some (.ref pn))) (hx : VR K (N1 pn) ta σ H ds) (hp : Pen H pn c0 cells a lf) (ha : a < 100000) (h0 : 0 < ds.length) (h1 : ds.length ≤ 1000)
    (k : ∀ (v : V) (d : PyData) (a' l' : Int) (H' : Hp), d ∈ ds → Rp K (N1 pn) H' v d → a ≤ a' → a' ≤ a + 1 → ExB pn H H' → Pen H' pn c0 cells a' l' → Q v H') : tCall spPick [] E (tCons (tVar 0) (tCons (tLst ta) tNil)) σ H Q := by
  refine ⟨_, hv, ?_⟩
  refine hx H (ex_refl H) _ fun vs H1 x1 rs hl => ⟨by rw [hl]; exact Nat.le_trans h1 (by decide), fun l hll => ?_⟩
  have x2 : Ex H1 (upd H1 l (.lst vs)) := ex_new hll
  have p1 := hp.ex x1
  refine ⟨pn, c0, l, vs, cells, a, lf, rfl, p1.ex x2, (fun z => by rw [z, p1.p] at hll; cases hll), upd_same, ha, by omega, by omega, fun v a' l' H' hm b0 b1 e p' => ?_⟩
  obtain ⟨i, hi, e1⟩ := List.mem_iff_getElem.mp hm
  obtain ⟨d, hd, rd⟩ := rs.at (i := i) (v := v) (by rw [List.getElem?_eq_getElem hi, e1])
  exact k v d a' l' H' (List.mem_of_getElem? hd) ((rd.ex x2).kp e.kp) b0 b1 ((ExB.of (x1.tr x2)).tr e) p'
/-- a pick from a list written down -/
theorem vp_pick {N : Addr → Prop} {pn c0 : Addr} {cells : List Int} {σ : L2.St} {H : Hp} {a l : Int} {ta : TA} {ds : List PyData} {E : XK} (hv : σ[0]? = some (some (.ref pn))) (hx : VR K (N1 pn) ta σ H ds) (hp : Pen H pn c0 cells a l) (ha : a < 100000) (h0 : 0 < ds.length) (h1 : ds.length ≤ 1000) :
    VP K (N1 pn) pn c0 cells (tCall spPick [] E (tCons (tVar 0) (tCons (tLst ta) tNil))) σ H a 1 (fun d => d ∈ ds) := fun Q q =>
  te_pickR hv hx hp ha h0 h1 fun v d a' l' H' hm r b c e p' => q v d a' l' H' hm r e p' b c
end
end DL

set_option Elab.async false
set_option linter.all false
set_option maxRecDepth 100000
set_option maxHeartbeats 4000000
/-! nested lists that nothing else shares: made, looked into, written to -/
namespace DL
open PySem PySem.Spec PyProof.Rows L2
mutual
/-- v is the datum d; its lists stand at fs, each at a place of its own; the rest are whole numbers -/
inductive Sep (H : Hp) : V → PyData → List Addr → Prop
  | int (i : Int) : Sep H (.int i) (.int i) []
  | lst {a : Addr} {xs : List V} {ds : List PyData} {fs : List Addr} : H a = some (.lst xs) → SepA H xs ds fs → a ∉ fs → Sep H (.ref a) (.list ds) (a :: fs)
inductive SepA (H : Hp) : List V → List PyData → List Addr → Prop
  | nil : SepA H [] [] []
  | cons {v : V} {vs : List V} {d : PyData} {ds : List PyData} {f1 f2 : List Addr} : Sep H v d f1 → SepA H vs ds f2 → (∀ b ∈ f1, b ∉ f2) → SepA H (v :: vs) (d :: ds) (f1 ++ f2)
end
section
variable {K : PySem.W.Frag} {N : Addr → Prop} {H H' : Hp}
mutual
theorem Sep.keep : ∀ {v : V} {d : PyData} {fs : List Addr}, Sep H v d fs → (∀ b ∈ fs, ∀ o, H b = some o → H' b = some o) → Sep H' v d fs
  | _, _, _, .int i, _ => .int i
  | _, _, _, .lst h r n, k => .lst (k _ (List.mem_cons_self) _ h) (SepA.keep r fun b hb => k b (List.mem_cons_of_mem _ hb)) n
theorem SepA.keep : ∀ {vs : List V} {ds : List PyData} {fs : List Addr}, SepA H vs ds fs → (∀ b ∈ fs, ∀ o, H b = some o → H' b = some o) → SepA H' vs ds fs
  | _, _, _, .nil, _ => .nil
  | _, _, _, .cons a b n, k => .cons (Sep.keep a fun x hx => k x (List.mem_append_left _ hx)) (SepA.keep b fun x hx => k x (List.mem_append_right _ hx)) n
end
mutual
theorem Sep.rp : ∀ {v : V} {d : PyData} {fs : List Addr}, Sep H v d fs → (∀ b ∈ fs, ¬ N b) → Rp K N H v d
  | _, _, _, .int i, _ => .int i
  | _, _, _, .lst h r n, k => .lst (SqL.of h) (k _ (List.mem_cons_self)) (SepA.rp r fun b hb => k b (List.mem_cons_of_mem _ hb))
theorem SepA.rp : ∀ {vs : List V} {ds : List PyData} {fs : List Addr}, SepA H vs ds fs → (∀ b ∈ fs, ¬ N b) → RpA K N H vs ds
  | _, _, _, .nil, _ => .nil
  | _, _, _, .cons a b n, k => .cons (Sep.rp a fun x hx => k x (List.mem_append_left _ hx)) (SepA.rp b fun x hx => k x (List.mem_append_right _ hx))
end
mutual
theorem Sep.has : ∀ {v : V} {d : PyData} {fs : List Addr}, Sep H v d fs → ∀ b ∈ fs, ∃ xs, H b = some (.lst xs)
  | _, _, _, .int i, b, hb => by cases hb
  | _, _, _, .lst h r n, b, hb => by
    rcases List.mem_cons.mp hb with rfl | hb
    · exact ⟨_, h⟩
    · exact SepA.has r b hb
theorem SepA.has : ∀ {vs : List V} {ds : List PyData} {fs : List Addr}, SepA H vs ds fs → ∀ b ∈ fs, ∃ xs, H b = some (.lst xs)
  | _, _, _, .nil, b, hb => by cases hb
  | _, _, _, .cons a c n, b, hb => by
    rcases List.mem_append.mp hb with hb | hb
    · exact Sep.has a b hb
    · exact SepA.has c b hb
end
theorem Sep.ex {v : V} {d : PyData} {fs : List Addr} (h : Sep H v d fs) (e : Ex H H') : Sep H' v d fs := h.keep fun b _ o q => e b o q
theorem Sep.kp {v : V} {d : PyData} {fs : List Addr} (h : Sep H v d fs) (k : Kp N H H') (n : ∀ b ∈ fs, ¬ N b) : Sep H' v d fs := h.keep fun b hb o q => by
  obtain ⟨xs, e⟩ := h.has b hb
  rw [e] at q
  cases q
  exact k _ _ e (n b hb) (fun ps z => by cases z)
theorem Sep.upd {v : V} {d : PyData} {fs : List Addr} {c : Addr} {o : HO} (h : Sep H v d fs) (n : c ∉ fs) : Sep (upd H c o) v d fs := h.keep fun b hb u q => by
  rw [upd_ne (fun e => n (by rw [← e]; exact hb))]
  exact q
theorem SepA.snoc {v : V} {d : PyData} {f1 : List Addr} : ∀ {vs : List V} {ds : List PyData} {fs : List Addr}, SepA H vs ds fs → Sep H v d f1 → (∀ b ∈ f1, b ∉ fs) → SepA H (vs ++ [v]) (ds ++ [d]) (fs ++ f1)
  | _, _, _, .nil, s, n => by
    have := SepA.cons s .nil (fun b _ z => by cases z)
    rw [List.append_nil] at this
    exact this
  | _, _, _, .cons a b m, s, n => by
    have := SepA.cons a (SepA.snoc b s fun x hx z => n x hx (List.mem_append_right _ z)) (fun x hx z => by
      rcases List.mem_append.mp z with z | z
      · exact m x hx z
      · exact n x z (List.mem_append_left _ hx))
    rw [← List.append_assoc] at this
    exact this
/-- one item of such a row: it, and what else there is without it -/
theorem SepA.get : ∀ {vs : List V} {ds : List PyData} {fs : List Addr} {i : Nat} {d : PyData}, SepA H vs ds fs → ds[i]? = some d → ∃ v f1, vs[i]? = some v ∧ Sep H v d f1 ∧ (∀ b ∈ f1, b ∈ fs) ∧
    ∀ (H' : Hp) (K : PySem.W.Frag) (N : Addr → Prop) (v' : V) (d' : PyData), (∀ b ∈ fs, b ∉ f1 → ∀ o, H b = some o → H' b = some o) → (∀ b ∈ fs, b ∉ f1 → ¬ N b) → Rp K N H' v' d' → RpA K N H' (vs.set i v') (ds.set i d')
  | _, _, _, i, d, .nil, e => by simp at e
  | _, _, _, 0, d, @SepA.cons _ v vs d0 ds f1 f2 a b n, e => by
    have e' := Option.some.inj e
    subst e'
    refine ⟨v, f1, rfl, a, fun x hx => List.mem_append_left _ hx, fun H' K N v' d' k nn r => ?_⟩
    exact .cons r ((b.keep fun x hx o q => k x (List.mem_append_right _ hx) (fun z => n x z hx) o q).rp fun x hx => nn x (List.mem_append_right _ hx) (fun z => n x z hx))
  | _, _, _, i + 1, d, @SepA.cons _ v vs d0 ds f1 f2 a b n, e => by
    obtain ⟨u, f, h1, h2, h3, h4⟩ := SepA.get (i := i) b (show ds[i]? = some d from e)
    refine ⟨u, f, h1, h2, fun x hx => List.mem_append_right _ (h3 x hx), fun H' K N v' d' k nn r => ?_⟩
    refine .cons ((a.keep fun x hx o q => k x (List.mem_append_left _ hx) (fun z => n x hx (h3 x z)) o q).rp fun x hx => nn x (List.mem_append_left _ hx) (fun z => n x hx (h3 x z))) (h4 H' K N v' d' (fun x hx hn o q => k x (List.mem_append_right _ hx) hn o q) (fun x hx hn => nn x (List.mem_append_right _ hx) hn) r)
end
/-! ### made so -/
section
variable {K : PySem.W.Frag} {σ : L2.St} {H : Hp} {te tb : TE} {d : PyData} {ds : List PyData}
/-- te makes the datum d, all its lists new -/
def VS (te : TE) (σ : L2.St) (H : Hp) (d : PyData) : Prop := ∀ H1, Ex H H1 → ∀ Q : VK, (∀ v H' fs, Ex H1 H' → Sep H' v d fs → (∀ b ∈ fs, H1 b = none) → Q v H') → te σ H1 Q
theorem vs_int {i : Int} (h : VE K N0 te σ H (.int i)) : VS te σ H (.int i) := fun H1 e1 Q q => h H1 e1 _ fun v H2 e2 r => by
  cases rp_int r
  exact q _ H2 [] e2 (.int i) fun b hb => by cases hb
theorem sepA_ints {H : Hp} : ∀ {vs : List V} {ds : List PyData} {N : Addr → Prop}, (∀ e ∈ ds, isI e = true) → RpA K N H vs ds → SepA H vs ds []
  | vs, [], _, _, r => by
    cases r
    exact .nil
  | vs, d :: ds, _, h, r => by
    cases r with
    | cons a b =>
      obtain ⟨i, rfl⟩ := isI_int (h d (List.mem_cons_self))
      cases rp_int a
      exact SepA.cons (f1 := []) (f2 := []) (.int i) (sepA_ints (fun e he => h e (List.mem_cons_of_mem _ he)) b) (fun b hb => by cases hb)
/-- list(x), x whole numbers -/
theorem vs_listof {N : Addr → Prop} (h : VE K N te σ H d) (hs : seqOf d = some ds) (hi : ∀ e ∈ ds, isI e = true) : VS (tCB (rLstD K) (tCons te tNil)) σ H (.list ds) := fun H1 e1 Q q =>
  h H1 e1 _ fun v H2 e2 rv => by
    obtain ⟨a, xs, rfl, hx, _, ra⟩ := rv.seq hs
    refine ⟨a, xs, rfl, hx, fun l hl => q _ _ [l] (e2.tr (ex_new hl)) (.lst upd_same (sepA_ints (K := K) hi (ra.ex (ex_new hl))) (fun z => by cases z)) fun b hb => ?_⟩
    rw [List.mem_singleton.mp hb]
    exact e2.back hl
/-- [x, y] -/
theorem vs_lst2 {d' : PyData} {ta : TE} (h : VS te σ H d) (h2 : VS ta σ H d') : VS (tLst (tCons te (tCons ta tNil))) σ H (.list [d, d']) := fun H1 e1 Q q =>
  h H1 e1 _ fun v H2 f1 e2 s1 n1 => h2 H2 (e1.tr e2) _ fun u H3 f2 e3 s2 n2 => ⟨by show 2 ≤ sizeLine; decide, fun l hl => by
    have s1' := (s1.ex e3).ex (ex_new (o := .lst [v, u]) hl)
    have s2' := s2.ex (ex_new (o := .lst [v, u]) hl)
    have d12 : ∀ b ∈ f1, b ∉ f2 := fun b hb z => by
      obtain ⟨xs, e⟩ := s1.has b hb
      rw [n2 b z] at e
      cases e
    have nl : l ∉ f1 ++ (f2 ++ []) := fun z => by
      rcases List.mem_append.mp z with z | z
      · obtain ⟨xs, e⟩ := (s1.ex e3).has l z
        rw [hl] at e
        cases e
      · rw [List.append_nil] at z
        obtain ⟨xs, e⟩ := s2.has l z
        rw [hl] at e
        cases e
    refine q _ _ (l :: (f1 ++ (f2 ++ []))) ((e2.tr e3).tr (ex_new hl)) (.lst upd_same (.cons s1' (.cons s2' .nil fun b _ z => by cases z) fun b hb z => d12 b hb (by rw [List.append_nil] at z; exact z)) nl) fun b hb => ?_
    rcases List.mem_cons.mp hb with rfl | hb
    · exact (e2.tr e3).back hl
    · rcases List.mem_append.mp hb with hb | hb
      · exact n1 b hb
      · rw [List.append_nil] at hb
        exact e2.back (n2 b hb)⟩
/-- [f(x) for x in d], all new -/
theorem vs_lc {Ni : Addr → Prop} {i : Nat} (f : PyData → PyData) (hx : VE K Ni te σ H d) (hseq : seqOf d = some ds) (hl : ds.length ≤ 100000)
    (he : ∀ H2, Ex H H2 → ∀ e, e ∈ ds → ∀ v, Rp K Ni H2 v e → VS tb ((wipe σ [i]).set i (some v)) H2 (f e)) : VS (tLc (iDat K te) (gName i) tYes tb [i]) σ H (.list (ds.map f)) := by
  intro H1 e1 Q q
  refine hx H1 e1 _ fun x H2 e2 rx => ?_
  obtain ⟨a, xs, rfl, hs, _, ra⟩ := rx.seq hseq
  have e12 := e1.tr e2
  have core : ∀ D, H2 D = none → ∀ (j : Nat) (x : V) (H' : Hp), xs[j]? = some x → (Ex H2 H' ∧ ∃ acc fs, H' D = some (.lst acc) ∧ acc.length = j ∧ SepA H' acc ((ds.take j).map f) fs ∧ (∀ b ∈ fs, H1 b = none) ∧ D ∉ fs) →
      gName i x (wipe σ [i]) H' fun σ2 H2' => wipe σ2 [i] = wipe σ [i] ∧ tYes σ2 H2' fun b H3 => if b = true then tb σ2 H3 fun y H4 => ∃ acc, H4 D = some (.lst acc) ∧ acc.length < sizeLine ∧
        (Ex H2 (upd H4 D (.lst (acc ++ [y]))) ∧ ∃ acc' fs, upd H4 D (.lst (acc ++ [y])) D = some (.lst acc') ∧ acc'.length = j + 1 ∧ SepA (upd H4 D (.lst (acc ++ [y]))) acc' ((ds.take (j + 1)).map f) fs ∧ (∀ b ∈ fs, H1 b = none) ∧ D ∉ fs)
        else (Ex H2 H3 ∧ ∃ acc fs, H3 D = some (.lst acc) ∧ acc.length = j + 1 ∧ SepA H3 acc ((ds.take (j + 1)).map f) fs ∧ (∀ b ∈ fs, H1 b = none) ∧ D ∉ fs) := by
    intro D hD j x H' hj ⟨ex, acc, fs, ha, hal, hsep, hn, hDf⟩
    obtain ⟨e, hej, re⟩ := ra.at hj
    have hm : e ∈ ds := List.mem_of_getElem? hej
    have hjl : j < ds.length := (List.getElem?_eq_some_iff.mp hej).1
    refine ⟨wipe1, ?_⟩
    unfold tYes
    dsimp only
    rw [if_pos rfl]
    refine he H' (e12.tr ex) e hm x (re.ex ex) H' (ex_refl H') _ fun y H4 f1 e4 s1 n1 => ?_
    have ha4 := e4 _ _ ha
    have hDf1 : D ∉ f1 := fun z => by
      have := n1 D z
      rw [ha] at this
      cases this
    have dis : ∀ b ∈ f1, b ∉ fs := fun b hb z => by
      obtain ⟨ys, e⟩ := hsep.has b z
      rw [n1 b hb] at e
      cases e
    have t1 : ds.take (j + 1) = ds.take j ++ [e] := by
      rw [List.take_add_one, hej]
      rfl
    refine ⟨acc, ha4, sz_nat (by omega), ex_updN (ex.tr e4) hD, acc ++ [y], fs ++ f1, upd_same, by rw [List.length_append]; simp; omega, ?_, fun b hb => ?_, fun z => ?_⟩
    · rw [t1, List.map_append]
      exact SepA.snoc (hsep.keep fun b hb o q => by
        rw [upd_ne (fun z => hDf (by rw [← z]; exact hb))]
        exact e4 _ _ q) (s1.upd hDf1) dis
    · rcases List.mem_append.mp hb with hb | hb
      · exact hn b hb
      · exact e2.back (ex.back (n1 b hb))
    · rcases List.mem_append.mp z with z | z
      · exact hDf z
      · exact hDf1 z
  have fin : ∀ D, H2 D = none → ∀ H', (Ex H2 H' ∧ ∃ acc fs, H' D = some (.lst acc) ∧ acc.length = xs.length ∧ SepA H' acc ((ds.take xs.length).map f) fs ∧ (∀ b ∈ fs, H1 b = none) ∧ D ∉ fs) → Q (.ref D) H' := by
    intro D hD H' ⟨ex, acc, fs, ha, _, hsep, hn, hDf⟩
    rw [ra.length, List.take_length] at hsep
    refine q _ _ (D :: fs) (e2.tr ex) (.lst ha hsep hDf) fun b hb => ?_
    rcases List.mem_cons.mp hb with rfl | hb
    · exact e2.back hD
    · exact hn b hb
  rcases hs with hs | hs
  · exact ⟨a, rfl, .inl ⟨⟨xs, hs⟩, fun D hD => lc_list (xs := xs) (fun j H' => Ex H2 H' ∧ ∃ acc fs, H' D = some (.lst acc) ∧ acc.length = j ∧ SepA H' acc ((ds.take j).map f) fs ∧ (∀ b ∈ fs, H1 b = none) ∧ D ∉ fs)
      ⟨ex_new hD, [], [], upd_same, rfl, .nil, (fun b hb => by cases hb), fun z => by cases z⟩ (fun j H' _ h => Evl.ex_l h.1 hs) (fun j x H' hj h => core D hD j x H' hj h) (fun H' h => fin D hD H' h)⟩⟩
  · exact ⟨a, rfl, .inr ⟨⟨xs, hs⟩, fun D hD => lc_tup (xs := xs) (fun j H' => Ex H2 H' ∧ ∃ acc fs, H' D = some (.lst acc) ∧ acc.length = j ∧ SepA H' acc ((ds.take j).map f) fs ∧ (∀ b ∈ fs, H1 b = none) ∧ D ∉ fs)
      ⟨ex_new hD, [], [], upd_same, rfl, .nil, (fun b hb => by cases hb), fun z => by cases z⟩ (fun j H' _ h => Evl.ex_t h.1 hs) (fun j x H' hj h => core D hD j x H' hj h) (fun H' h => fin D hD H' h)⟩⟩
end
end DL

set_option Elab.async false
set_option linter.all false
set_option maxRecDepth 100000
set_option maxHeartbeats 4000000
/-! a str or a tuple times a whole number -/
namespace DL
open PySem PySem.Spec PyProof.Rows L2
/-- a short str times a small number: some str -/
def rRepS : R2 := fun x y H Q => ∃ (z : Str) (k : Int), x = .str z ∧ y = .int k ∧ 0 ≤ k ∧ k ≤ 1000 ∧ z.length ≤ 1000 ∧ ∀ z', Q (.str z') H
theorem foldl_size (its : Array Nat) : ∀ (m : Nat) (acc : Array Nat), ((List.replicate m its).foldl (· ++ ·) acc).size = acc.size + m * its.size
  | 0, acc => by simp
  | m + 1, acc => by
    rw [List.replicate_succ, List.foldl_cons, foldl_size its m, Array.size_append, Nat.add_mul]
    omega
section
variable {X : Cx}
theorem op_repS : OpR X (binaryOp .Mult) rRepS := by
  intro pins s σ H x y v u Q I rx ry h
  obtain ⟨z, k, rfl, rfl, h0, h1, hz, q⟩ := h
  obtain ⟨t, rfl⟩ := rx
  obtain ⟨t', rfl⟩ := ry
  have hm : k.toNat * z.length ≤ 1000 * 1000 := Nat.mul_le_mul (by omega) hz
  refine PySem.P.mul_str ?_ (fun a b => ?_) (fun a b => ?_) ?_
  · rw [decide_eq_false (by omega), decide_eq_false (by omega)] <;> rfl
  · have e : (9223372036854775 : Int) ≤ (2 ^ 63 - 1) / k := by
      refine Int.le_ediv_of_mul_le (by omega) ?_
      omega
    omega
  · unfold Builtin.Str.tooLong
    rw [sizeLine_eq, Nat.mul_comm]
    exact decide_eq_false (by omega)
  · split
    · exact ⟨by decide, .str _, H, I.tok _, ⟨_, rfl⟩, q _⟩
    · split
      · exact ⟨.str z, H, I, ⟨_, rfl⟩, q z⟩
      · refine ⟨?_, .str _, H, I.tok _, ⟨_, rfl⟩, q _⟩
        show (List.foldl (· ++ ·) #[] (List.replicate k.toNat z.cps)).size ≤ sizeLine
        rw [foldl_size, sizeLine_eq]
        have : k.toNat * z.cps.size ≤ 1000 * 1000 := hm
        simp only [Array.size_empty]
        omega
theorem tuple_mul1 (l : Addr) (items : Array Value) (n : Nat) (dd : Option Addr) (sl : Array (Option Value)) (u : Tok) :
    Meets (Builtin.«tuple.__mul__» ⟨[.ref l, .int 1 u], []⟩) (fun _ R s => s.heap.get? l = some { cls := .type "tuple", dict := dd, data := .seq items n, slots := sl } ∧
      R (.ok (.ret (Value.ref l))) s) :=
  .of_wp fun prog w A R s h => by
    obtain ⟨hp, g, d, tk, os⟩ := s
    obtain ⟨hl, h⟩ := h
    have f1 := AutoSeq1.idx_int
    wp_walk using wpAny_loadPart' hl
    exact ⟨_, rfl, h⟩
/-- a tuple times a small number; once is itself -/
def rRepTA (K : PySem.W.Frag) : R2 := fun x y H Q => ∃ l k xs, x = .ref l ∧ y = .int k ∧ SqT K H l xs ∧ xs ≠ [] ∧ 1 ≤ k ∧ k ≤ 1000 ∧ xs.length ≤ 1000 ∧ (k = 1 → Q (.ref l) H) ∧ ∀ p, H p = none → Q (.ref p) (upd H p (.tup (List.replicate k.toNat xs).flatten))
theorem op_repTA : OpR X (binaryOp .Mult) (rRepTA X.K) := by
  intro pins s σ H x y v u Q I rx ry h
  obtain ⟨l, k, xs, rfl, rfl, hT, hne, h1, h2, hz, q1, q⟩ := h
  by_cases hk : k = 1
  · subst hk
    have q1 := q1 rfl
    cases rx
    obtain ⟨t, rfl⟩ := ry
    obtain ⟨its, r, ⟨⟨cls, dd, data, sl⟩, ho, hc, n, hd⟩, hs⟩ := I.tuple hT
    simp only at hc hd
    subst hc hd
    exact wpAny_binaryOp_repeat_ref (T := "tuple") (U := "int") (by decide) ⟨_, ho, rfl⟩ (fun s' => typeIs_int s' 1 t) noFill_tuple_mul F.fills_int_mul F.slot_int_rmul repeat_tuple F.slot_int_index.lookup
      (call_meets F.slot_int_rmul (typeIs_int s 1 t) F.entry_int_rmul (F.args_int_rmul_2 _ _) (int_rmul_tuple 1 t l its.toArray n dd sl)
        ⟨ho, rfl, ⟨_, ho, rfl⟩, call_meets F.slot_tuple_mul ⟨_, ho, rfl⟩ F.entry_tuple_mul (F.args_tuple_mul_2 _ _) (tuple_mul1 l its.toArray n dd sl t) ⟨ho, .ref l, H, I, rfl, q1⟩⟩)
  · exact op_repT pins s σ H (.ref l) (.int k) v u Q I rx ry ⟨l, k, xs, rfl, rfl, hT, hne, by omega, h2, hz, q⟩
end
end DL

set_option Elab.async false
set_option linter.all false
set_option maxRecDepth 100000
set_option maxHeartbeats 4000000
/-! an item of separated nested lists written to; a pick of which only a thing is known -/
namespace DL
open PySem PySem.Spec PyProof.Rows L2
/-- where the road leads -/
def rdAt (H : Hp) : V → List Nat → Addr → Prop
  | v, [], c => v = .ref c
  | v, j :: p, c => ∃ a xs u, v = .ref a ∧ H a = some (.lst xs) ∧ xs[j]? = some u ∧ rdAt H u p c
/-- the items of the list there -/
def itemsAt : PyData → List Nat → Option (List PyData)
  | .list ds, [] => some ds
  | .list ds, j :: p => (ds[j]?).bind fun d => itemsAt d p
  | _, _ => none
def putAt : PyData → List Nat → Nat → PyData → PyData
  | .list ds, [], i, d' => .list (ds.set i d')
  | .list ds, j :: p, i, d' => .list (match ds[j]? with | some d => ds.set j (putAt d p i d') | none => ds)
  | d, _, _, _ => d
theorem set_same {α : Type} {xs : List α} {j : Nat} {v : α} (h : xs[j]? = some v) : xs.set j v = xs := by
  obtain ⟨hj, e⟩ := List.getElem?_eq_some_iff.mp h
  rw [← e]
  exact List.set_getElem_self hj
theorem SepA.len {H : Hp} : ∀ {vs : List V} {ds : List PyData} {fs : List Addr}, SepA H vs ds fs → vs.length = ds.length
  | _, _, _, .nil => rfl
  | _, _, _, .cons _ b _ => by rw [List.length_cons, List.length_cons, SepA.len b]
theorem Sep.put {H : Hp} : ∀ (p : List Nat) {v : V} {d : PyData} {fs : List Addr} {es : List PyData} {i : Nat}, Sep H v d fs → itemsAt d p = some es → i < es.length →
    ∃ (c : Addr) (xs : List V) (f2 : List Addr), rdAt H v p c ∧ H c = some (.lst xs) ∧ c ∈ fs ∧ SepA H xs es f2 ∧ c ∉ f2 ∧ (∀ b ∈ f2, b ∈ fs) ∧
      ∀ (H' : Hp) (K : PySem.W.Frag) (N : Addr → Prop) (v' : V) (d' : PyData), (∀ b ∈ fs, b ≠ c → ∀ o, H b = some o → H' b = some o) → H' c = some (.lst (xs.set i v')) → (∀ b ∈ fs, ¬ N b) → Rp K N H' v' d' → Rp K N H' v (putAt d p i d')
  | [], _, .int _, _, es, i, h, e, hi => by cases e
  | [], _, _, _, es, i, .lst (a := a) (xs := xs) (ds := ds) (fs := fs) h r n, e, hi => by
    have e' : ds = es := Option.some.inj e
    subst e'
    refine ⟨a, xs, fs, rfl, h, List.mem_cons_self, r, n, fun b hb => List.mem_cons_of_mem _ hb, fun H' K N v' d' k hc nn rv => ?_⟩
    obtain ⟨u, f1, h1, h2, h3, h4⟩ := r.get (i := i) (d := ds[i]) (List.getElem?_eq_getElem hi)
    exact .lst (SqL.of hc) (nn a List.mem_cons_self) (h4 H' K N v' d' (fun b hb _ o q => k b (List.mem_cons_of_mem _ hb) (fun z => n (by rw [← z]; exact hb)) o q) (fun b hb _ => nn b (List.mem_cons_of_mem _ hb)) rv)
  | j :: p, _, .int _, _, es, i, h, e, hi => by cases e
  | j :: p, _, _, _, es, i, .lst (a := a) (xs := xs) (ds := ds) (fs := fs) h r n, e, hi => by
    cases hj : ds[j]? with
    | none =>
      have : itemsAt (.list ds) (j :: p) = none := by show (ds[j]?).bind _ = none; rw [hj]; rfl
      rw [this] at e
      cases e
    | some d1 =>
      have e1 : itemsAt d1 p = some es := by
        have : itemsAt (.list ds) (j :: p) = itemsAt d1 p := by show (ds[j]?).bind _ = _; rw [hj]; rfl
        rw [← this]
        exact e
      obtain ⟨u, f1, h1, h2, h3, h4⟩ := r.get (i := j) (d := d1) hj
      obtain ⟨c, xs2, f2, r1, r2, r3, r4, r5, r6, r7⟩ := Sep.put p h2 e1 hi
      have hca : a ≠ c := fun z => n (by rw [z]; exact h3 c r3)
      refine ⟨c, xs2, f2, ⟨a, xs, u, rfl, h, h1, r1⟩, r2, List.mem_cons_of_mem _ (h3 c r3), r4, r5, fun b hb => List.mem_cons_of_mem _ (h3 b (r6 b hb)), fun H' K N v' d' k hc nn rv => ?_⟩
      have q1 := r7 H' K N v' d' (fun b hb hbc o q => k b (List.mem_cons_of_mem _ (h3 b hb)) hbc o q) hc (fun b hb => nn b (List.mem_cons_of_mem _ (h3 b hb))) rv
      have q2 := h4 H' K N u _ (fun b hb hb1 o q => k b (List.mem_cons_of_mem _ hb) (fun z => hb1 (by rw [z]; exact r3)) o q) (fun b hb _ => nn b (List.mem_cons_of_mem _ hb)) q1
      rw [set_same h1] at q2
      have e3 : putAt (.list ds) (j :: p) i d' = .list (ds.set j (putAt d1 p i d')) := by
        show PyData.list (match ds[j]? with | some d => _ | none => _) = _
        rw [hj]
      rw [e3]
      exact .lst (SqL.of (k a List.mem_cons_self hca _ h)) (nn a List.mem_cons_self) q2
/-! ### a datum of which P is known -/
section
variable {K : PySem.W.Frag} {N : Addr → Prop} {σ : L2.St} {H : Hp} {te tb : TE} {ta : TA} {P : PyData → Prop} {n : Nat}
def VQ (K : PySem.W.Frag) (N : Addr → Prop) (te : TE) (σ : L2.St) (H : Hp) (P : PyData → Prop) : Prop := ∀ H1, Ex H H1 → ∀ Q : VK, (∀ v d H', P d → Ex H1 H' → Rp K N H' v d → Q v H') → te σ H1 Q
def VQL (K : PySem.W.Frag) (N : Addr → Prop) (ta : TA) (σ : L2.St) (H : Hp) (P : PyData → Prop) (n : Nat) : Prop := ∀ H1, Ex H H1 → ∀ Q : List V → Hp → Prop, (∀ vs ds H', (∀ d ∈ ds, P d) → vs.length = n → RpA K N H' vs ds → Ex H1 H' → Q vs H') → ta σ H1 Q
theorem vq_of {d : PyData} (h : VE K N te σ H d) (p : P d) : VQ K N te σ H P := fun H1 e Q q => h H1 e _ fun v H2 e2 r => q v d H2 p e2 r
theorem vql_nil : VQL K N tNil σ H P 0 := fun H1 e Q q => q [] [] H1 (fun d hd => by cases hd) rfl .nil (ex_refl H1)
theorem vql_cons (h : VQ K N te σ H P) (r : VQL K N ta σ H P n) : VQL K N (tCons te ta) σ H P (n + 1) := fun H1 e Q q =>
  h H1 e _ fun v d H2 p e2 rv => r H2 (e.tr e2) _ fun vs ds H3 ps hl rs e3 => q (v :: vs) (d :: ds) H3 (fun x hx => by
    rcases List.mem_cons.mp hx with rfl | hx
    · exact p
    · exact ps x hx) (by rw [List.length_cons, hl]) (.cons (rv.ex e3) rs) (e2.tr e3)
theorem te_pickQ {Q : VK} {E : XK} {pn c0 : Addr} {cells : List Int} {a lf : Int} (hv : σ[0]? = some (some (.ref pn))) (hx : VQL K N ta σ H P n) (hN : N pn) (hp : Pen H pn c0 cells a lf) (ha : a < 100000) (h0 : 0 < n) (h1 : n ≤ 1000)
    (k : ∀ (v : V) (d : PyData) (a' l' : Int) (H' : Hp), P d → Rp K N H' v d → a ≤ a' → a' ≤ a + 1 → ExB pn H H' → Pen H' pn c0 cells a' l' → Q v H') : tCall spPick [] E (tCons (tVar 0) (tCons (tLst ta) tNil)) σ H Q := by
  refine ⟨_, hv, ?_⟩
  refine hx H (ex_refl H) _ fun vs ds H1 ps hl rs x1 => ⟨by rw [hl]; exact Nat.le_trans h1 (by decide), fun l hll => ?_⟩
  have x2 : Ex H1 (upd H1 l (.lst vs)) := ex_new hll
  have p1 := hp.ex x1
  refine ⟨pn, c0, l, vs, cells, a, lf, rfl, p1.ex x2, (fun z => by rw [z, p1.p] at hll; cases hll), upd_same, ha, by omega, by omega, fun v a' l' H' hm b0 b1 e p' => ?_⟩
  obtain ⟨i, hi, e1⟩ := List.mem_iff_getElem.mp hm
  obtain ⟨d, hd, rd⟩ := rs.at (i := i) (v := v) (by rw [List.getElem?_eq_getElem hi, e1])
  have kN : Kp N (upd H1 l (.lst vs)) H' := fun b o h nb _ => e b o (fun z => nb (by rw [z]; exact hN)) h
  exact k v d a' l' H' (ps d (List.mem_of_getElem? hd)) ((rd.ex x2).kp kN) b0 b1 ((ExB.of (x1.tr x2)).tr e) p'
/-- [x] * k -/
theorem ve_rep {d : PyData} {tk : TE} {k : Nat} (hN : ∀ a, N a → H a ≠ none) (h : VE K N te σ H d) (hk : ∀ H1, Ex H H1 → Val tk σ H1 (.int k)) (hk1 : k ≤ 1000) : VE K N (tOp rRep (tLst (tCons te tNil)) tk) σ H (.list (List.replicate k d)) := fun H1 e1 Q q =>
  h H1 e1 _ fun v H2 e2 r => ⟨by show 1 ≤ sizeLine; decide, fun l hl => by
    have e3 : Ex H2 (upd H2 l (.lst [v])) := ex_new hl
    refine hk _ ((e1.tr e2).tr e3) _ ⟨l, k, [v], rfl, rfl, upd_same, by omega, by omega, ?_, fun p hp => ?_⟩
    · rw [sizeLine_eq]; show 1 * (k : Int).toNat ≤ _; omega
    · have e4 : Ex (upd H2 l (.lst [v])) (upd (upd H2 l (.lst [v])) p (.lst (List.replicate (k : Int).toNat [v]).flatten)) := ex_new hp
      refine q _ _ ((e2.tr e3).tr e4) (.lst (SqL.of upd_same) (fun z => hN p z (((e1.tr e2).tr e3).back hp)) ?_)
      have r' := (r.ex e3).ex e4
      have go : ∀ m, RpA K N (upd (upd H2 l (.lst [v])) p (.lst (List.replicate (k : Int).toNat [v]).flatten)) (List.replicate m [v]).flatten (List.replicate m d) := fun m => by
        induction m with
        | zero => exact .nil
        | succ m ih => exact .cons r' ih
      exact go k⟩
/-- (x,) * k -/
theorem ve_repT {d : PyData} {tk : TE} {k : Nat} (hN : ∀ a, N a → H a ≠ none) (h : VE K N te σ H d) (hk : ∀ H1, Ex H H1 → Val tk σ H1 (.int k)) (hk0 : 1 ≤ k) (hk1 : k ≤ 1000) : VE K N (tOp (rRepTA K) (tTup (tCons te tNil)) tk) σ H (.tuple (List.replicate k d)) := fun H1 e1 Q q =>
  h H1 e1 _ fun v H2 e2 r => ⟨by show 1 ≤ sizeLine; decide, fun l hl => by
    have e3 : Ex H2 (upd H2 l (.tup [v])) := ex_new hl
    refine hk _ ((e1.tr e2).tr e3) _ ⟨l, k, [v], rfl, rfl, SqT.of upd_same, (fun z => by cases z), by omega, by omega, (by show 1 ≤ 1000; decide), fun h1 => ?_, fun p hp => ?_⟩
    · have : k = 1 := by omega
      subst this
      exact q _ _ (e2.tr e3) (.tup (SqT.of upd_same) (fun z => hN l z ((e1.tr e2).back hl)) (.cons (r.ex e3) .nil))
    · have e4 : Ex (upd H2 l (.tup [v])) (upd (upd H2 l (.tup [v])) p (.tup (List.replicate (k : Int).toNat [v]).flatten)) := ex_new hp
      refine q _ _ ((e2.tr e3).tr e4) (.tup (SqT.of upd_same) (fun z => hN p z (((e1.tr e2).tr e3).back hp)) ?_)
      have r' := (r.ex e3).ex e4
      have go : ∀ m, RpA K N (upd (upd H2 l (.tup [v])) p (.tup (List.replicate (k : Int).toNat [v]).flatten)) (List.replicate m [v]).flatten (List.replicate m d) := fun m => by
        induction m with
        | zero => exact .nil
        | succ m ih => exact .cons r' ih
      exact go k⟩
/-- 'x' * k -/
theorem vq_repS {tk : TE} {z : Str} {k : Nat} (hz : z.length ≤ 1000) (hk : ∀ H1, Ex H H1 → Val tk σ H1 (.int k)) (hk1 : k ≤ 1000) (p : ∀ z', P (.str z')) : VQ K N (tOp rRepS (tC (.str z)) tk) σ H P := fun H1 e1 Q q =>
  hk _ e1 _ ⟨z, k, rfl, rfl, by omega, by omega, hz, fun z' => q _ _ _ (p z') (ex_refl H1) (.str z')⟩
/-- a list that stands by itself -/
def VL (K : PySem.W.Frag) (N : Addr → Prop) (te : TE) (σ : L2.St) (H : Hp) (ds : List PyData) : Prop := ∀ H1, Ex H H1 → ∀ Q : VK, (∀ l xs H', Ex H1 H' → H' l = some (.lst xs) → RpA K N H' xs ds → xs.length = ds.length → Q (.ref l) H') → te σ H1 Q
theorem vll_at {l : Addr} {xs : List V} {ds : List PyData} (h : ∀ H1, Ex H H1 → Val te σ H1 (.ref l)) (hl : H l = some (.lst xs)) (r : RpA K N H xs ds) (hn : xs.length = ds.length) : VL K N te σ H ds := fun H1 e Q q => h H1 e _ (q l xs H1 (ex_refl H1) (e _ _ hl) (r.ex e) hn)
theorem vl_lst {ds : List PyData} (h : VR K N ta σ H ds) (hl : ds.length ≤ 1000) : VL K N (tLst ta) σ H ds := fun H1 e Q q =>
  h H1 e _ fun vs H2 e2 rs hn => ⟨by rw [hn]; exact Nat.le_trans hl (by decide), fun p hp => q _ _ _ (e2.tr (ex_new hp)) upd_same (rs.ex (ex_new hp)) hn⟩
theorem rpA_app {xs ys : List V} {ds es : List PyData} : ∀ {xs : List V} {ds : List PyData}, RpA K N H xs ds → RpA K N H ys es → RpA K N H (xs ++ ys) (ds ++ es)
  | _, _, .nil, s => s
  | _, _, .cons a b, s => .cons a (rpA_app (xs := xs) (ds := ds) b s)
theorem ve_cat {ds es : List PyData} (hN : ∀ a, N a → H a ≠ none) (h : VL K N te σ H ds) (h2 : VL K N tb σ H es) (hl : ds.length + es.length ≤ 1000) : VE K N (tOp rCat te tb) σ H (.list (ds ++ es)) := fun H1 e1 Q q =>
  h H1 e1 _ fun l xs H2 e2 hx r n => h2 H2 (e1.tr e2) _ fun l2 ys H3 e3 hy r2 n2 => ⟨l, l2, xs, ys, rfl, rfl, e3 _ _ hx, hy, by rw [n, n2]; exact Nat.le_trans hl (by decide), fun p hp => by
    have e4 : Ex H3 (upd H3 p (.lst (xs ++ ys))) := ex_new hp
    exact q _ _ ((e2.tr e3).tr e4) (.lst (SqL.of upd_same) (fun z => hN p z (((e1.tr e2).tr e3).back hp)) (rpA_app (xs := []) (ds := []) ((r.ex e3).ex e4) (r2.ex e4)))⟩
theorem RpA.take : ∀ (n : Nat) {xs : List V} {ds : List PyData}, RpA K N H xs ds → RpA K N H (xs.take n) (ds.take n)
  | 0, _, _, _ => by rw [List.take_zero, List.take_zero]; exact .nil
  | n + 1, _, _, .nil => .nil
  | n + 1, _, _, .cons a b => .cons a (RpA.take n b)
theorem RpA.drop : ∀ (n : Nat) {xs : List V} {ds : List PyData}, RpA K N H xs ds → RpA K N H (xs.drop n) (ds.drop n)
  | 0, _, _, h => h
  | n + 1, _, _, .nil => .nil
  | n + 1, _, _, .cons a b => RpA.drop n b
/-- x[:k] -/
theorem vll_upto {ds : List PyData} {k : Nat} (h : VL K N te σ H ds) (hk : k ≤ ds.length) : VL K N (tSl (rSlL K) te tNoPart (tPart (tC (.int k)))) σ H (ds.take k) := fun H1 e1 Q q =>
  h H1 e1 _ fun l xs H2 e2 hx r n => ⟨k, rfl, l, xs, rfl, SqL.of hx, fun p hp => by
    have e : cutV xs none (some (k : Int)) = xs.take k := by
      unfold cutV
      rw [HT.sIx_none, HT.sIx_nat, List.drop_zero, Nat.sub_zero, Nat.min_eq_left (by omega)]
    rw [e]
    refine q p _ _ (e2.tr (ex_new hp)) upd_same ((r.take k).ex (ex_new hp)) ?_
    rw [List.length_take, List.length_take, n]⟩
/-- x[k:] -/
theorem vll_from {ds : List PyData} {k : Nat} (h : VL K N te σ H ds) (hk : k ≤ ds.length) : VL K N (tSl (rSlL K) te (tPart (tC (.int k))) tNoPart) σ H (ds.drop k) := fun H1 e1 Q q =>
  h H1 e1 _ fun l xs H2 e2 hx r n => ⟨k, rfl, l, xs, rfl, SqL.of hx, fun p hp => by
    have e : cutV xs (some (k : Int)) none = xs.drop k := by
      unfold cutV
      rw [HT.sIx_none, HT.sIx_nat, Nat.min_eq_left (by omega), List.take_of_length_le (by rw [List.length_drop]; omega)]
    rw [e]
    refine q p _ _ (e2.tr (ex_new hp)) upd_same ((r.drop k).ex (ex_new hp)) ?_
    rw [List.length_drop, List.length_drop, n]⟩
/-- x[k:], as a datum -/
theorem ve_from {ds : List PyData} {k : Nat} (hN : ∀ a, N a → H a ≠ none) (h : VL K N te σ H ds) (hk : k ≤ ds.length) : VE K N (tSl (rSlL K) te (tPart (tC (.int k))) tNoPart) σ H (.list (ds.drop k)) := fun H1 e1 Q q =>
  h H1 e1 _ fun l xs H2 e2 hx r n => ⟨k, rfl, l, xs, rfl, SqL.of hx, fun p hp => by
    have e : cutV xs (some (k : Int)) none = xs.drop k := by
      unfold cutV
      rw [HT.sIx_none, HT.sIx_nat, Nat.min_eq_left (by omega), List.take_of_length_le (by rw [List.length_drop]; omega)]
    rw [e]
    exact q _ _ (e2.tr (ex_new hp)) (.lst (SqL.of upd_same) (fun z => hN p z ((e1.tr e2).back hp)) ((r.drop k).ex (ex_new hp)))⟩
end
end DL

set_option Elab.async false
set_option linter.all false
set_option maxRecDepth 100000
set_option maxHeartbeats 4000000
/-! a small machine: values, objects, how they stand in the layer's heap -/
namespace M
open PySem PySem.Spec PyProof.Rows L2 DL
/-- a value of the machine: lists, dicts and whole instances that are never written again are values; what may be written stands at a number -/
inductive MV where
  | non | bl (b : Bool) | int (i : Int) | str (s : Str) | tup (xs : List MV) | lst (xs : List MV) | dic (ks : List Key) (xs : List MV) | dicT (ks : List (List Key)) (xs : List MV) | ins (C : Str) (xs : List MV)
  | ref (n : Nat) | exc (C : Str) (vs : List MV) | raw (a : Addr) | scr (xs : List MV)
  deriving Inhabited
inductive MO where
  | lst (xs : List MV) | dic (kvs : List (Key × MV)) | dicT (kvs : List (List Key × MV)) | ins (C : Str) (fs : List (Str × MV)) | dead
  deriving Inhabited
abbrev MH := List MO
abbrev ME := List (Option MV)
inductive R (α : Type) where
  | ok (a : α) (h : MH) | exc (C : Str) (vs : List MV) (h : MH) | bad
inductive RS where
  | next (μ : ME) (h : MH) | ret (v : MV) (h : MH) | brk (μ : ME) (h : MH) | cnt (μ : ME) (h : MH) | exc (C : Str) (vs : List MV) (μ : ME) (h : MH) | bad
abbrev EF := ME → MH → R MV
abbrev TF := ME → MH → R Bool
abbrev AF := ME → MH → R (List MV)
abbrev SF := ME → MH → RS
/-- the fields of an error class, of a class of values, in order -/
abbrev Flds := Str → List Str
mutual
/-- all numbers in it are below n -/
def rb (n : Nat) : MV → Bool
  | .ref i => decide (i < n)
  | .tup xs => rbs n xs
  | .lst xs => rbs n xs
  | .dic _ xs => rbs n xs
  | .dicT _ xs => rbs n xs
  | .ins _ xs => rbs n xs
  | .exc _ xs => rbs n xs
  | .scr xs => rbs n xs
  | .non => true
  | .bl _ => true
  | .int _ => true
  | .str _ => true
  | .raw _ => true
def rbs (n : Nat) : List MV → Bool
  | [] => true
  | x :: xs => rb n x && rbs n xs
end
def rbO (n : Nat) : MO → Bool
  | .lst xs => rbs n xs
  | .dic kvs => rbs n (kvs.map (·.2))
  | .dicT kvs => rbs n (kvs.map (·.2))
  | .ins _ fs => rbs n (fs.map (·.2))
  | .dead => true
/-- a list that is never written: a locked one, one of the written part -/
def FzL (K : PySem.W.Frag) (H : Hp) (a : Addr) (xs : List V) : Prop := (∃ o, H a = some (.frz o (.lst xs))) ∨ ∃ (o : Obj) (its : Array Value) (n : Nat), K.lookup a = some o ∧ o.cls = .type "list" ∧ o.dict = none ∧ o.data = .seq its n ∧ its.size ≤ sizeLine ∧ Vals xs its.toList
section
variable (K : PySem.W.Frag) (F : Flds) (H : Hp) (m : Nat → Addr) (n : Nat)
mutual
inductive RV : MV → V → Prop
  | non : RV .non .non
  | bl (b : Bool) : RV (.bl b) (.bl b)
  | int (i : Int) : RV (.int i) (.int i)
  | str (x : Str) : RV (.str x) (.str x)
  | tup {xs : List MV} {vs : List V} {a : Addr} : H a = some (.tup vs) → RVs xs vs → RV (.tup xs) (.ref a)
  | lst {xs : List MV} {vs : List V} {a : Addr} {o : Obj} : H a = some (.frz o (.lst vs)) → RVs xs vs → RV (.lst xs) (.ref a)
  | dic {ks : List Key} {xs : List MV} {kws : List (Key × V)} {a : Addr} {o : Obj} : H a = some (.frz o (.dK kws)) → kws.map (·.1) = ks → RVs xs (kws.map (·.2)) → RV (.dic ks xs) (.ref a)
  | dicT {ks : List (List Key)} {xs : List MV} {kws : List (List Key × V)} {a : Addr} {o : Obj} : H a = some (.frz o (.dT kws)) → kws.map (·.1) = ks → RVs xs (kws.map (·.2)) → RV (.dicT ks xs) (.ref a)
  | ins {C : Str} {xs : List MV} {ws : List (Str × V)} {a dx : Addr} : H a = some (.ins (He.ga K C) dx ws) → F C ≠ [] → ws.map (·.1) = F C → RVs xs (ws.map (·.2)) → RV (.ins C xs) (.ref a)
  | ref {i : Nat} : i < n → RV (.ref i) (.ref (m i))
  | raw (a : Addr) : RV (.raw a) (.ref a)
  | scr {xs : List MV} {vs : List V} {a : Addr} : FzL K H a vs → RVs xs vs → RV (.scr xs) (.ref a)
  | exc {C : Str} {xs : List MV} {vs : List V} {a d : Addr} {fs : List (Str × V)} : H a = some (XcO (.ref (He.ga K C)) (some d) a) → H d = some (.xd fs) → fs = (F C).zip vs → RVs xs vs → RV (.exc C xs) (.ref a)
inductive RVs : List MV → List V → Prop
  | nil : RVs [] []
  | cons {x : MV} {v : V} {xs : List MV} {vs : List V} : RV x v → RVs xs vs → RVs (x :: xs) (v :: vs)
end
end
/-- what is never written -/
def Imm (K : PySem.W.Frag) (F : Flds) : HO → Prop
  | .lst _ => False | .dK _ => False | .dT _ => False | .set _ _ => False | .tbl _ => False
  | .ins c _ ws => ∃ C, c = He.ga K C ∧ F C ≠ [] ∧ ws.map (·.1) = F C
  | _ => True
/-- what is never written stays -/
def Fix (K : PySem.W.Frag) (F : Flds) (H H' : Hp) : Prop := ∀ a o, H a = some o → Imm K F o → H' a = some o
section
variable {K : PySem.W.Frag} {F : Flds}
theorem Fix.refl (H : Hp) : Fix K F H H := fun _ _ h _ => h
theorem Fix.tr {H H1 H2 : Hp} (a : Fix K F H H1) (b : Fix K F H1 H2) : Fix K F H H2 := fun x o h i => b x o (a x o h i) i
theorem Fix.new {H : Hp} {p : Addr} {o : HO} (h : H p = none) : Fix K F H (upd H p o) := fun a u e _ => by
  rw [upd_ne (ne_of_none e h)]
  exact e
theorem Fix.set {H : Hp} {p : Addr} {o u : HO} (h : H p = some u) (nu : ¬ Imm K F u) : Fix K F H (upd H p o) := fun a z e i => by
  have n : a ≠ p := fun q => by
    rw [q, h] at e
    cases e
    exact nu i
  rw [upd_ne n]
  exact e
end
section
variable {K : PySem.W.Frag} {F : Flds} {H H' : Hp} {m m' : Nat → Addr} {n n' : Nat}
theorem fix_rd {a : Addr} {xs : List V} (f : Fix K F H H') (h : Rd H a (.tup xs)) : Rd H' a (.tup xs) := by
  rcases h with h | ⟨o, h⟩
  · exact .inl (f _ _ h trivial)
  · exact .inr ⟨o, f _ _ h trivial⟩
theorem fix_t {a : Addr} {xs : List V} (f : Fix K F H H') (h : SqT K H a xs) : SqT K H' a xs := by
  rcases h with h | h
  · exact .inl (fix_rd f h)
  · exact .inr h
mutual
theorem RV.mo (f : Fix K F H H') (hm : ∀ i, i < n → m' i = m i) (hn : n ≤ n') : ∀ {x : MV} {v : V}, RV K F H m n x v → RV K F H' m' n' x v
  | _, _, .non => .non
  | _, _, .bl b => .bl b
  | _, _, .int i => .int i
  | _, _, .str x => .str x
  | _, _, .tup h a => .tup (f _ _ h trivial) (RVs.mo f hm hn a)
  | _, _, .lst h a => .lst (f _ _ h trivial) (RVs.mo f hm hn a)
  | _, _, .dic h e a => .dic (f _ _ h trivial) e (RVs.mo f hm hn a)
  | _, _, .dicT h e a => .dicT (f _ _ h trivial) e (RVs.mo f hm hn a)
  | _, _, .ins h z e a => .ins (f _ _ h ⟨_, rfl, z, e⟩) z e (RVs.mo f hm hn a)
  | _, _, .ref (i := i) h => by
    rw [← hm i h]
    exact .ref (Nat.lt_of_lt_of_le h hn)
  | _, _, .raw a => .raw a
  | _, _, .scr h a => .scr (h.imp (fun ⟨o, e⟩ => ⟨o, f _ _ e trivial⟩) fun z => z) (RVs.mo f hm hn a)
  | _, _, .exc h h2 e a => .exc (f _ _ h trivial) (f _ _ h2 trivial) e (RVs.mo f hm hn a)
theorem RVs.mo (f : Fix K F H H') (hm : ∀ i, i < n → m' i = m i) (hn : n ≤ n') : ∀ {xs : List MV} {vs : List V}, RVs K F H m n xs vs → RVs K F H' m' n' xs vs
  | _, _, .nil => .nil
  | _, _, .cons a b => .cons (RV.mo f hm hn a) (RVs.mo f hm hn b)
end
theorem RVs.length : ∀ {xs : List MV} {vs : List V}, RVs K F H m n xs vs → vs.length = xs.length
  | _, _, .nil => rfl
  | _, _, .cons a b => congrArg Nat.succ (RVs.length b)
theorem RVs.get : ∀ {xs : List MV} {vs : List V} {i : Nat} {x : MV}, RVs K F H m n xs vs → xs[i]? = some x → ∃ v, vs[i]? = some v ∧ RV K F H m n x v
  | _, _, i, x, .nil, e => by simp at e
  | _, _, 0, x, .cons a b, e => by
    have e' := Option.some.inj e
    subst e'
    exact ⟨_, rfl, a⟩
  | _, _, i + 1, x, .cons a b, e => by
    have e' : _ = some x := e
    obtain ⟨v, h1, h2⟩ := RVs.get (i := i) b e'
    exact ⟨v, h1, h2⟩
theorem RVs.at : ∀ {xs : List MV} {vs : List V} {i : Nat} {v : V}, RVs K F H m n xs vs → vs[i]? = some v → ∃ x, xs[i]? = some x ∧ RV K F H m n x v
  | _, _, i, x, .nil, e => by simp at e
  | _, _, 0, x, .cons a b, e => by
    have e' := Option.some.inj e
    subst e'
    exact ⟨_, rfl, a⟩
  | _, _, i + 1, x, .cons a b, e => by
    have e' : _ = some x := e
    obtain ⟨v, h1, h2⟩ := RVs.at (i := i) b e'
    exact ⟨v, h1, h2⟩
theorem RVs.app : ∀ {xs : List MV} {vs : List V} {ys : List MV} {ws : List V}, RVs K F H m n xs vs → RVs K F H m n ys ws → RVs K F H m n (xs ++ ys) (vs ++ ws)
  | _, _, _, _, .nil, s => s
  | _, _, _, _, .cons a b, s => .cons a (RVs.app b s)
theorem RVs.take : ∀ {xs : List MV} {vs : List V} (k : Nat), RVs K F H m n xs vs → RVs K F H m n (xs.take k) (vs.take k)
  | _, _, 0, _ => .nil
  | _, _, _ + 1, .nil => .nil
  | _, _, k + 1, .cons a b => .cons a (RVs.take k b)
theorem RVs.drop : ∀ {xs : List MV} {vs : List V} (k : Nat), RVs K F H m n xs vs → RVs K F H m n (xs.drop k) (vs.drop k)
  | _, _, 0, r => r
  | _, _, _ + 1, .nil => .nil
  | _, _, k + 1, .cons a b => RVs.drop k b
theorem RVs.set {x : MV} {v : V} (r : RV K F H m n x v) : ∀ {xs : List MV} {vs : List V} (i : Nat), RVs K F H m n xs vs → RVs K F H m n (xs.set i x) (vs.set i v)
  | _, _, _, .nil => .nil
  | _, _, 0, .cons a b => .cons r b
  | _, _, i + 1, .cons a b => .cons a (RVs.set r i b)
theorem RVs.rev : ∀ {xs : List MV} {vs : List V}, RVs K F H m n xs vs → RVs K F H m n xs.reverse vs.reverse
  | _, _, .nil => .nil
  | _, _, .cons a b => by
    rw [List.reverse_cons, List.reverse_cons]
    exact RVs.app (RVs.rev b) (.cons a .nil)
end

/-- an object of the machine, as it stands there -/
def RO (K : PySem.W.Frag) (F : Flds) (H : Hp) (m : Nat → Addr) (n : Nat) (a : Addr) : MO → Prop
  | .lst xs => ∃ vs, H a = some (.lst vs) ∧ RVs K F H m n xs vs
  | .dic kvs => (∃ kws, H a = some (.dK kws) ∧ Paired (fun (p : Key × MV) (q : Key × V) => p.1 = q.1 ∧ RV K F H m n p.2 q.2) kvs kws) ∨ (kvs = [] ∧ H a = some (.dT []))
  | .dicT kvs => ∃ kws, H a = some (.dT kws) ∧ Paired (fun (p : List Key × MV) (q : List Key × V) => p.1 = q.1 ∧ RV K F H m n p.2 q.2) kvs kws
  | .ins C fs => ∃ dx ws, H a = some (.ins (He.ga K C) dx ws) ∧ ws.map (·.1) = fs.map (·.1) ∧ RVs K F H m n (fs.map (·.2)) (ws.map (·.2))
  | .dead => ∃ u, H a = some u ∧ ∀ ps, u ≠ .tbl ps
/-- the machine's heap, as it stands there -/
structure HR (K : PySem.W.Frag) (F : Flds) (T : List (Addr × Str)) (m : Nat → Addr) (h : MH) (H : Hp) : Prop where
  inj : ∀ i j, i < h.length → j < h.length → m i = m j → i = j
  obj : ∀ (i : Nat) (o : MO), h[i]? = some o → RO K F H m h.length (m i) o
  tabs : LamX.Tabs T H
/-- the slots -/
structure SR0 (K : PySem.W.Frag) (F : Flds) (H : Hp) (m : Nat → Addr) (n : Nat) (μ : ME) (σ : L2.St) : Prop where
  len : σ.length = μ.length
  get : ∀ (i : Nat) (v : MV), μ[i]? = some (some v) → ∃ x, σ[i]? = some (some x) ∧ RV K F H m n v x
/-- what stands elsewhere, and stays: other frames' slots, things that are never written -/
structure Ot where
  fr : List (ME × L2.St)
  im : List (Addr × HO)
abbrev Ot.no : Ot := ⟨[], []⟩
/-- .. and those of other frames -/
structure SR (K : PySem.W.Frag) (F : Flds) (O : Ot) (H : Hp) (m : Nat → Addr) (n : Nat) (μ : ME) (σ : L2.St) : Prop where
  len : σ.length = μ.length
  get : ∀ (i : Nat) (v : MV), μ[i]? = some (some v) → ∃ x, σ[i]? = some (some x) ∧ RV K F H m n v x
  out : ∀ p ∈ O.fr, SR0 K F H m n p.1 p.2
  imm : ∀ p ∈ O.im, Imm K F p.2 ∧ H p.1 = some p.2
/-- a way from one state to a later one -/
structure Stp (K : PySem.W.Frag) (F : Flds) (T : List (Addr × Str)) (m : Nat → Addr) (n : Nat) (H : Hp) (m' : Nat → Addr) (h' : MH) (H' : Hp) : Prop where
  gr : n ≤ h'.length
  mx : ∀ i, i < n → m' i = m i
  fx : Fix K F H H'
  hr : HR K F T m' h' H'
  dm : ∀ a, H a ≠ none → H' a ≠ none
  nw : ∀ i, n ≤ i → i < h'.length → H (m' i) = none
  ot : ∀ a o, H a = some o → (∀ i, i < n → m i ≠ a) → (∀ ps, o ≠ .tbl ps) → H' a = some o
section
variable {K : PySem.W.Frag} {F : Flds} {T : List (Addr × Str)} {O : Ot} {H H1 H2 H' : Hp} {m m1 m2 m' : Nat → Addr} {n n' : Nat} {h h1 h2 h' : MH} {μ : ME} {σ : L2.St}
theorem Stp.refl (r : HR K F T m h H) : Stp K F T m h.length H m h H := ⟨Nat.le_refl _, fun _ _ => rfl, Fix.refl H, r, fun _ z => z, fun i a b => absurd (Nat.lt_of_lt_of_le b a) (Nat.lt_irrefl _), fun _ _ e _ _ => e⟩
theorem Stp.tr (a : Stp K F T m n H m1 h1 H1) (b : Stp K F T m1 h1.length H1 m2 h2 H2) : Stp K F T m n H m2 h2 H2 := by
  refine ⟨Nat.le_trans a.gr b.gr, fun i hi => (b.mx i (Nat.lt_of_lt_of_le hi a.gr)).trans (a.mx i hi), a.fx.tr b.fx, b.hr, fun x z => b.dm x (a.dm x z), fun i hi hl => ?_, fun x o e hn ht => ?_⟩
  · rcases Nat.lt_or_ge i h1.length with q | q
    · rw [b.mx i q]
      exact a.nw i hi q
    · have z := b.nw i q hl
      cases e : H (m2 i) with
      | none => rfl
      | some o => exact absurd z (a.dm _ (by rw [e]; exact fun y => nomatch y))
  · refine b.ot x o (a.ot x o e hn ht) (fun i hi => ?_) ht
    rcases Nat.lt_or_ge i n with q | q
    · rw [a.mx i q]
      exact hn i q
    · intro z
      have y := a.nw i q hi
      rw [z, e] at y
      cases y
theorem RV.st (s : Stp K F T m n H m' h' H') {x : MV} {v : V} (r : RV K F H m n x v) : RV K F H' m' h'.length x v := r.mo s.fx s.mx s.gr
theorem RVs.st (s : Stp K F T m n H m' h' H') {x : List MV} {v : List V} (r : RVs K F H m n x v) : RVs K F H' m' h'.length x v := r.mo s.fx s.mx s.gr
theorem SR0.st (s : Stp K F T m n H m' h' H') (r : SR0 K F H m n μ σ) : SR0 K F H' m' h'.length μ σ :=
  ⟨r.len, fun i v e => let ⟨x, e1, e2⟩ := r.get i v e; ⟨x, e1, e2.st s⟩⟩
theorem SR.st (s : Stp K F T m n H m' h' H') (r : SR K F O H m n μ σ) : SR K F O H' m' h'.length μ σ :=
  ⟨r.len, fun i v e => let ⟨x, e1, e2⟩ := r.get i v e; ⟨x, e1, e2.st s⟩, fun p hp => (r.out p hp).st s, fun p hp => ⟨(r.imm p hp).1, s.fx _ _ (r.imm p hp).2 (r.imm p hp).1⟩⟩
theorem paired_imp {α β : Type} {P Q : α → β → Prop} (f : ∀ a b, P a b → Q a b) : ∀ {l₁ : List α} {l₂ : List β}, Paired P l₁ l₂ → Paired Q l₁ l₂
  | _, _, .nil => .nil
  | _, _, .cons r t => .cons (f _ _ r) (paired_imp f t)
/-- an object that stands as before -/
theorem RO.mo (f : Fix K F H H') (hm : ∀ i, i < n → m' i = m i) (hn : n ≤ n') {a : Addr} {o : MO} (e : H' a = H a) (r : RO K F H m n a o) : RO K F H' m' n' a o := by
  cases o with
  | lst xs =>
    obtain ⟨vs, h1, h2⟩ := r
    exact ⟨vs, e.trans h1, h2.mo f hm hn⟩
  | dic kvs =>
    rcases r with ⟨kws, h1, h2⟩ | ⟨h1, h2⟩
    · exact .inl ⟨kws, e.trans h1, paired_imp (fun p q z => ⟨z.1, z.2.mo f hm hn⟩) h2⟩
    · exact .inr ⟨h1, e.trans h2⟩
  | dicT kvs =>
    obtain ⟨kws, h1, h2⟩ := r
    exact ⟨kws, e.trans h1, paired_imp (fun p q z => ⟨z.1, z.2.mo f hm hn⟩) h2⟩
  | ins C fs =>
    obtain ⟨dx, ws, h1, h2, h3⟩ := r
    exact ⟨dx, ws, e.trans h1, h2, h3.mo f hm hn⟩
  | dead =>
    obtain ⟨u, h1, h2⟩ := r
    exact ⟨u, e.trans h1, h2⟩
/-- an object of the machine is no table; it is there -/
theorem RO.live {a : Addr} {o : MO} (r : RO K F H m n a o) : ∃ u, H a = some u ∧ ∀ ps, u ≠ .tbl ps := by
  cases o with
  | lst xs =>
    obtain ⟨vs, h1, h2⟩ := r
    exact ⟨_, h1, fun ps z => by cases z⟩
  | dic kvs =>
    rcases r with ⟨kws, h1, h2⟩ | ⟨h1, h2⟩
    · exact ⟨_, h1, fun ps z => by cases z⟩
    · exact ⟨_, h2, fun ps z => by cases z⟩
  | dicT kvs =>
    obtain ⟨kws, h1, h2⟩ := r
    exact ⟨_, h1, fun ps z => by cases z⟩
  | ins C fs =>
    obtain ⟨dx, ws, h1, h2, h3⟩ := r
    exact ⟨_, h1, fun ps z => by cases z⟩
  | dead => exact r
theorem HR.live (r : HR K F T m h H) {i : Nat} (hi : i < h.length) : H (m i) ≠ none := fun z => by
  obtain ⟨u, e, _⟩ := (r.obj i h[i] (List.getElem?_eq_getElem hi)).live
  rw [z] at e
  cases e
theorem Tabs.keep (t : LamX.Tabs T H) (e : ∀ a o, H a = some o → (∀ ps, o = .tbl ps → H' a = some o) ∧ (∀ c q, o = LamX.CodeO c q → H' a = some o)) : LamX.Tabs T H' := fun p hm => by
  obtain ⟨ps, h1, h2, h3⟩ := t p hm
  refine ⟨ps, (e _ _ h1).1 ps rfl, h2, fun pos cv hc => ?_⟩
  obtain ⟨c, e1, e2⟩ := h3 pos cv hc
  exact ⟨c, e1, (e _ _ e2).2 _ _ rfl⟩
theorem Tabs.new {p : Addr} {o : HO} (t : LamX.Tabs T H) (hp : H p = none) : LamX.Tabs T (upd H p o) := Tabs.keep t fun a u e => by
  have q : upd H p o a = some u := by rw [upd_ne (ne_of_none e hp)]; exact e
  exact ⟨fun _ _ => q, fun _ _ _ => q⟩
theorem Tabs.put {p : Addr} {o u : HO} (t : LamX.Tabs T H) (hp : H p = some u) (n1 : ∀ ps, u ≠ .tbl ps) (n2 : ∀ c q, u ≠ LamX.CodeO c q) : LamX.Tabs T (upd H p o) := Tabs.keep t fun a z e => by
  by_cases ha : a = p
  · subst ha
    rw [hp] at e
    cases e
    exact ⟨fun ps y => absurd y (n1 ps), fun c q y => absurd y (n2 c q)⟩
  · have q : upd H p o a = some z := by rw [upd_ne ha]; exact e
    exact ⟨fun _ _ => q, fun _ _ _ => q⟩
/-- the map, with one more -/
def mput (m : Nat → Addr) (n : Nat) (p : Addr) : Nat → Addr := fun i => if i = n then p else m i
theorem mput_at {p : Addr} : mput m n p n = p := if_pos rfl
theorem mput_lt {p : Addr} {i : Nat} (hi : i < n) : mput m n p i = m i := if_neg (Nat.ne_of_lt hi)
theorem upd_live {p a : Addr} {o : HO} (z : H a ≠ none) : upd H p o a ≠ none := by
  by_cases q : a = p
  · subst q
    rw [upd_same]
    exact fun y => nomatch y
  · rw [upd_ne q]
    exact z
/-- a new object of the machine, at a new place -/
theorem HR.new {p : Addr} {u : HO} {o : MO} (r : HR K F T m h H) (hp : H p = none) (ro : RO K F (upd H p u) (mput m h.length p) (h.length + 1) p o) : Stp K F T m h.length H (mput m h.length p) (h ++ [o]) (upd H p u) := by
  have fx : Fix K F H (upd H p u) := Fix.new hp
  have ne : ∀ i, i < h.length → m i ≠ p := fun i hi z => r.live hi (by rw [z]; exact hp)
  refine ⟨by rw [List.length_append]; exact Nat.le_add_right _ _, fun i hi => mput_lt hi, fx, ⟨fun i j hi hj e => ?_, fun i x e => ?_, Tabs.new r.tabs hp⟩, fun a z => upd_live z, fun i hi hl => ?_, fun a o e _ _ => by rw [upd_ne (ne_of_none e hp)]; exact e⟩
  · rw [List.length_append] at hi hj
    simp only [List.length_cons, List.length_nil] at hi hj
    rcases Nat.lt_or_ge i h.length with a | a
    · rcases Nat.lt_or_ge j h.length with b | b
      · rw [mput_lt a, mput_lt b] at e
        exact r.inj i j a b e
      · have : j = h.length := by omega
        subst this
        rw [mput_lt a, mput_at] at e
        exact absurd e (ne i a)
    · have : i = h.length := by omega
      subst this
      rcases Nat.lt_or_ge j h.length with b | b
      · rw [mput_at, mput_lt b] at e
        exact absurd e.symm (ne j b)
      · omega
  · rw [List.length_append]
    simp only [List.length_cons, List.length_nil]
    rcases Nat.lt_or_ge i h.length with a | a
    · rw [List.getElem?_append_left a] at e
      rw [mput_lt a]
      exact (r.obj i x e).mo fx (fun i hi => mput_lt hi) (Nat.le_succ _) (upd_ne (ne i a))
    · have hi : i = h.length := by
        have := (List.getElem?_eq_some_iff.mp e).1
        rw [List.length_append] at this
        simp only [List.length_cons, List.length_nil] at this
        omega
      subst hi
      rw [List.getElem?_append_right (Nat.le_refl _), Nat.sub_self] at e
      cases e
      rw [mput_at]
      exact ro
  · rw [List.length_append] at hl
    simp only [List.length_cons, List.length_nil] at hl
    have : i = h.length := by omega
    subst this
    rw [mput_at]
    exact hp
/-- something new that is no object of the machine -/
theorem HR.aux {p : Addr} {u : HO} (r : HR K F T m h H) (hp : H p = none) : Stp K F T m h.length H m h (upd H p u) := by
  have fx : Fix K F H (upd H p u) := Fix.new hp
  have ne : ∀ i, i < h.length → m i ≠ p := fun i hi z => r.live hi (by rw [z]; exact hp)
  exact ⟨Nat.le_refl _, fun _ _ => rfl, fx, ⟨r.inj, fun i x e => (r.obj i x e).mo fx (fun _ _ => rfl) (Nat.le_refl _) (upd_ne (ne i (List.getElem?_eq_some_iff.mp e).1)), Tabs.new r.tabs hp⟩, fun a z => upd_live z, fun i a b => absurd (Nat.lt_of_lt_of_le b a) (Nat.lt_irrefl _), fun a o e _ _ => by rw [upd_ne (ne_of_none e hp)]; exact e⟩
/-- an object of the machine is written -/
theorem HR.put {i : Nat} {u z : HO} {o : MO} (r : HR K F T m h H) (hi : i < h.length) (hz : H (m i) = some z) (nz : ¬ Imm K F z) (n1 : ∀ ps, z ≠ .tbl ps) (ro : RO K F (upd H (m i) u) m h.length (m i) o) : Stp K F T m h.length H m (h.set i o) (upd H (m i) u) := by
  have fx : Fix K F H (upd H (m i) u) := Fix.set hz nz
  refine ⟨by rw [List.length_set]; exact Nat.le_refl _, fun _ _ => rfl, fx, ⟨by rw [List.length_set]; exact r.inj, fun j x e => ?_, Tabs.put r.tabs hz n1 fun c q e => nz (by rw [e]; exact trivial)⟩, fun a z => upd_live z, fun j a b => absurd (Nat.lt_of_lt_of_le (by rwa [List.length_set] at b) a) (Nat.lt_irrefl _), fun a o e hn _ => by rw [upd_ne (Ne.symm (hn i hi))]; exact e⟩
  rw [List.length_set]
  by_cases hj : j = i
  · subst hj
    rw [List.getElem?_set_self hi] at e
    cases e
    exact ro
  · rw [List.getElem?_set_ne (Ne.symm hj)] at e
    have hjl := (List.getElem?_eq_some_iff.mp e).1
    exact (r.obj j x e).mo fx (fun _ _ => rfl) (Nat.le_refl _) (upd_ne fun q => hj (r.inj j i hjl hi q))
theorem SR.set (r : SR K F O H m n μ σ) {v : MV} {x : V} (rv : RV K F H m n v x) (i : Nat) : SR K F O H m n (μ.set i (some v)) (σ.set i (some x)) := by
  refine ⟨by rw [List.length_set, List.length_set]; exact r.len, fun j w e => ?_, r.out, r.imm⟩
  by_cases hj : i = j
  · subst hj
    have hl : i < μ.length := by
      have := (List.getElem?_eq_some_iff.mp e).1
      rwa [List.length_set] at this
    rw [List.getElem?_set_self hl] at e
    cases e
    exact ⟨x, List.getElem?_set_self (by rw [r.len]; exact hl), rv⟩
  · rw [List.getElem?_set_ne hj] at e
    obtain ⟨y, e1, e2⟩ := r.get j w e
    exact ⟨y, by rw [List.getElem?_set_ne hj]; exact e1, e2⟩
mutual
theorem RV.rb {N : Nat} : ∀ {x : MV} {v : V}, RV K F H m N x v → rb n x = true → RV K F H m n x v
  | _, _, .non, _ => .non
  | _, _, .bl b, _ => .bl b
  | _, _, .int i, _ => .int i
  | _, _, .str x, _ => .str x
  | _, _, .tup h a, e => .tup h (RVs.rb a e)
  | _, _, .lst h a, e => .lst h (RVs.rb a e)
  | _, _, .dic h z a, e => .dic h z (RVs.rb a e)
  | _, _, .dicT h z a, e => .dicT h z (RVs.rb a e)
  | _, _, .ins h z z2 a, e => .ins h z z2 (RVs.rb a e)
  | _, _, .ref _, e => .ref (of_decide_eq_true e)
  | _, _, .raw a, _ => .raw a
  | _, _, .scr h a, e => .scr h (RVs.rb a e)
  | _, _, .exc h h2 z a, e => .exc h h2 z (RVs.rb a e)
theorem RVs.rb {N : Nat} : ∀ {xs : List MV} {vs : List V}, RVs K F H m N xs vs → rbs n xs = true → RVs K F H m n xs vs
  | _, _, .nil, _ => .nil
  | _, _, .cons a b, e => by
    have e' := (Bool.and_eq_true _ _).mp e
    exact .cons (RV.rb a e'.1) (RVs.rb b e'.2)
end
theorem paired_rb {κ : Type} {N : Nat} : ∀ {kvs : List (κ × MV)} {kws : List (κ × V)}, Paired (fun p q => p.1 = q.1 ∧ RV K F H m N p.2 q.2) kvs kws → rbs n (kvs.map (·.2)) = true → Paired (fun p q => p.1 = q.1 ∧ RV K F H m n p.2 q.2) kvs kws
  | _, _, .nil, _ => .nil
  | _, _, .cons a b, e => by
    have e' := (Bool.and_eq_true _ _).mp e
    exact .cons ⟨a.1, a.2.rb e'.1⟩ (paired_rb b e'.2)
theorem RO.rb {N : Nat} {a : Addr} {o : MO} (r : RO K F H m N a o) (e : rbO n o = true) : RO K F H m n a o := by
  cases o with
  | lst xs =>
    obtain ⟨vs, h1, h2⟩ := r
    exact ⟨vs, h1, h2.rb e⟩
  | dic kvs =>
    rcases r with ⟨kws, h1, h2⟩ | r
    · exact .inl ⟨kws, h1, paired_rb h2 e⟩
    · exact .inr r
  | dicT kvs =>
    obtain ⟨kws, h1, h2⟩ := r
    exact ⟨kws, h1, paired_rb h2 e⟩
  | ins C fs =>
    obtain ⟨dx, ws, h1, h2, h3⟩ := r
    exact ⟨dx, ws, h1, h2, h3.rb e⟩
  | dead => exact r
/-- what is behind the first n objects is forgotten, if nothing ahead of it tells of it -/
theorem Stp.cut {k : Nat} (s : Stp K F T m n H m' h' H') (hk : n ≤ k) (hl : k ≤ h'.length) (e : (h'.take k).all (rbO k) = true) : Stp K F T m n H m' (h'.take k) H' := by
  have ln : (h'.take k).length = k := by rw [List.length_take]; omega
  refine ⟨by rw [ln]; exact hk, s.mx, s.fx, ⟨fun i j hi hj z => ?_, fun i o ei => ?_, s.hr.tabs⟩, s.dm, fun i a b => ?_, s.ot⟩
  · rw [ln] at hi hj
    exact s.hr.inj i j (by omega) (by omega) z
  · rw [ln]
    have hi : i < k := by
      have := (List.getElem?_eq_some_iff.mp ei).1
      rwa [ln] at this
    have e2 : rbO k o = true := List.all_eq_true.mp e o (List.mem_of_getElem? ei)
    rw [List.getElem?_take_of_lt hi] at ei
    exact (s.hr.obj i o ei).rb e2
  · rw [ln] at b
    exact s.nw i a (by omega)
/-- slots that are forgotten in the machine -/
theorem SR.wk (r : SR K F O H m n μ σ) {μ' : ME} (hl : μ'.length = μ.length) (w : ∀ (i : Nat) (v : MV), μ'[i]? = some (some v) → μ[i]? = some (some v)) : SR K F O H m n μ' σ := ⟨r.len.trans hl.symm, fun i v e => r.get i v (w i v e), r.out, r.imm⟩
end
end M

set_option Elab.async false
set_option linter.all false
set_option maxRecDepth 100000
set_option maxHeartbeats 4000000
/-! expressions of the machine -/
namespace M
open PySem PySem.Spec PyProof.Rows L2 DL
def R.bind {α β : Type} : R α → (α → MH → R β) → R β
  | .ok a h, f => f a h
  | .exc C vs h, _ => .exc C vs h
  | .bad, _ => .bad
/-- how a result of the machine stands there: of a value, a truth, a row of values -/
abbrev Rel (α β : Type) := Hp → (Nat → Addr) → Nat → α → β → Prop
section
variable (K : PySem.W.Frag) (F : Flds) (T : List (Addr × Str)) (O : Ot)
abbrev rlE : Rel MV V := fun H m n => RV K F H m n
abbrev rlA : Rel (List MV) (List V) := fun H m n => RVs K F H m n
abbrev rlT : Rel Bool Bool := fun _ _ _ a b => b = a
/-- the wish, by the machine's result -/
def Po {α β : Type} (rl : Rel α β) (W : WX) (m : Nat → Addr) (n : Nat) (σ : L2.St) (H : Hp) (Q : β → Hp → Prop) : R α → Prop
  | .ok a h' => ∀ m' H' b, Stp K F T m n H m' h' H' → rl H' m' h'.length a b → Q b H'
  | .exc C vs h' => ∀ m' H' d ws, Stp K F T m n H m' h' H' → H' d = some (.xd ((F C).zip ws)) → RVs K F H' m' h'.length vs ws → W (.ref (He.ga K C)) (some d) σ H'
  | .bad => False
def tG {α β : Type} (rl : Rel α β) (W : WX) (f : ME → MH → R α) : L2.St → Hp → (β → Hp → Prop) → Prop := fun σ H Q =>
  ∃ (m : Nat → Addr) (h : MH) (μ : ME), SR K F O H m h.length μ σ ∧ HR K F T m h H ∧ Po K F T rl W m h.length σ H Q (f μ h)
abbrev tE (W : WX) (f : EF) : TE := tG K F T O (rlE K F) W f
abbrev tT (W : WX) (f : TF) : TT := tG K F T O rlT W f
abbrev tA (W : WX) (f : AF) : TA := tG K F T O (rlA K F) W f
end
section
variable {K : PySem.W.Frag} {F : Flds} {T : List (Addr × Str)} {O : Ot} {α β γ δ : Type} {rl : Rel α β} {rl2 : Rel γ δ} {W : WX} {m m1 : Nat → Addr} {n : Nat} {h h1 : MH} {σ : L2.St} {H H1 : Hp} {μ : ME}
theorem Po.st {Q : β → Hp → Prop} {r : R α} (s : Stp K F T m n H m1 h1 H1) (p : Po K F T rl W m n σ H Q r) : Po K F T rl W m1 h1.length σ H1 Q r := by
  cases r with
  | ok a h' => exact fun m' H' b s' q => p m' H' b (s.tr s') q
  | exc C vs h' => exact fun m' H' d ws s' q r => p m' H' d ws (s.tr s') q r
  | bad => exact p
theorem Po.bind {Q : δ → Hp → Prop} {r : R α} {g : α → MH → R γ} (p : Po K F T rl2 W m n σ H Q (r.bind g)) :
    Po K F T rl W m n σ H (fun b H1 => ∃ a h1 m1, Stp K F T m n H m1 h1 H1 ∧ rl H1 m1 h1.length a b ∧ Po K F T rl2 W m1 h1.length σ H1 Q (g a h1)) r := by
  cases r with
  | ok a h' => exact fun m' H' b s q => ⟨a, h', m', s, q, Po.st s p⟩
  | exc C vs h' => exact p
  | bad => exact p
theorem Po.imp {Q Q' : β → Hp → Prop} {r : R α} (p : Po K F T rl W m n σ H Q r) (i : ∀ b H', Q b H' → Q' b H') : Po K F T rl W m n σ H Q' r := by
  cases r with
  | ok a h' => exact fun m' H' b s q => i _ _ (p m' H' b s q)
  | exc C vs h' => exact p
  | bad => exact p
theorem tG.mk {Q : β → Hp → Prop} {f : ME → MH → R α} (s : SR K F O H m h.length μ σ) (r : HR K F T m h H) (p : Po K F T rl W m h.length σ H Q (f μ h)) : tG K F T O rl W f σ H Q := ⟨m, h, μ, s, r, p⟩
/-- one after another -/
theorem tG.seq {f : ME → MH → R α} {g : α → MH → R γ} {Q : δ → Hp → Prop} {Q' : β → Hp → Prop} (s : SR K F O H m h.length μ σ) (r : HR K F T m h H) (p : Po K F T rl2 W m h.length σ H Q ((f μ h).bind g))
    (k : ∀ a b m1 h1 H1, SR K F O H1 m1 h1.length μ σ → HR K F T m1 h1 H1 → Stp K F T m h.length H m1 h1 H1 → rl H1 m1 h1.length a b → Po K F T rl2 W m1 h1.length σ H1 Q (g a h1) → Q' b H1) : tG K F T O rl W f σ H Q' :=
  ⟨m, h, μ, s, r, p.bind.imp fun b H' ⟨a, h1, m1, st, q, p1⟩ => k a b m1 h1 H' (s.st st) st.hr st q p1⟩
end
section
variable {K : PySem.W.Frag} {F : Flds} {T : List (Addr × Str)} {O : Ot} {α β γ δ : Type} {rl : Rel α β} {rl2 : Rel γ δ} {W : WX} {m m1 : Nat → Addr} {n : Nat} {h h1 : MH} {σ : L2.St} {H H1 : Hp} {μ : ME}
/-- .. and it is known what the first one is -/
theorem tG.seqE {f : ME → MH → R α} {g : α → MH → R γ} {Q : δ → Hp → Prop} {Q' : β → Hp → Prop} (s : SR K F O H m h.length μ σ) (r : HR K F T m h H) (p : Po K F T rl2 W m h.length σ H Q ((f μ h).bind g))
    (k : ∀ a b m1 h1 H1, f μ h = .ok a h1 → SR K F O H1 m1 h1.length μ σ → HR K F T m1 h1 H1 → Stp K F T m h.length H m1 h1 H1 → rl H1 m1 h1.length a b → Po K F T rl2 W m1 h1.length σ H1 Q (g a h1) → Q' b H1) : tG K F T O rl W f σ H Q' := by
  refine ⟨m, h, μ, s, r, ?_⟩
  generalize e : f μ h = x at p ⊢
  cases x with
  | ok a h' => exact fun m' H' b st q => k a b m' h' H' e (s.st st) st.hr st q (Po.st st p)
  | exc C vs h' => exact p
  | bad => exact p
end
theorem PE.imp {X : Cx} {e : Expr} {t t' : TE} (h : PE X e t) (i : ∀ σ H Q, t' σ H Q → t σ H Q) : PE X e t' := ⟨fun pins s σ H Q I w => h.run pins s σ H Q I (i σ H Q w)⟩
theorem PT.imp {X : Cx} {e : Expr} {t t' : TT} (h : PT X e t) (i : ∀ σ H Q, t' σ H Q → t σ H Q) : PT X e t' := ⟨fun pins s σ H Q I w => h.run pins s σ H Q I (i σ H Q w)⟩
theorem PW.imp {X : Cx} {e : Expr} {t t' : TT} (h : PW X e t) (i : ∀ σ H Q, t' σ H Q → t σ H Q) : PW X e t' := ⟨fun wh pins s σ H Q I w => h.run wh pins s σ H Q I (i σ H Q w)⟩
theorem PA.imp {X : Cx} {e : List Expr} {t t' : TA} (h : PA X e t) (i : ∀ σ H Q, t' σ H Q → t σ H Q) : PA X e t' := ⟨fun pos pins s σ H Q I w => h.run pos pins s σ H Q I (i σ H Q w)⟩
theorem PS.imp {X : Cx} {e : Stmt} {t t' : TS} (h : PS X e t) (i : ∀ D σ H, t' D σ H → t D σ H) : PS X e t' := ⟨fun pins s σ H Q I w => h.run pins s σ H Q I (i Q σ H w)⟩
theorem PSs.imp {X : Cx} {e : List Stmt} {t t' : TS} (h : PSs X e t) (i : ∀ D σ H, t' D σ H → t D σ H) : PSs X e t' := ⟨fun pins s σ H Q I w => h.run pins s σ H Q I (i Q σ H w)⟩

/-- a thing that is handed on may be locked: never written again -/
def lkQ (Q : VK) : VK := fun v H => Q v H ∨ ∃ d u, v = .ref d ∧ H d = some u ∧ Mut (some u) ∧ ∀ od, Q v (upd H d (.frz od u))
theorem PE.lk {X : Cx} {e : Expr} {t : TE} (h : PE X e t) : PE X e (fun σ H Q => t σ H (lkQ Q)) := ⟨fun pins s σ H Q I w => thn (h.run pins s σ H _ I w) fun v s' ⟨x, H', I', r, q⟩ => by
  rcases q with q | ⟨d, u, e, hd, mu, q⟩
  · exact ⟨x, H', I', r, q⟩
  · obtain ⟨od, I2⟩ := I'.lock hd mu
    exact ⟨x, _, I2, r, q od⟩⟩
theorem PE.impL {X : Cx} {e : Expr} {t t' : TE} (h : PE X e t) (i : ∀ σ H Q, t' σ H Q → t σ H (lkQ Q)) : PE X e t' := PE.imp (PE.lk h) i
theorem PS.lk {X : Cx} {e : Stmt} {t : TS} (h : PS X e t) : PS X e (fun D σ H => ∃ d u, H d = some u ∧ Mut (some u) ∧ ∀ od, t D σ (upd H d (.frz od u))) := ⟨fun pins s σ H D I ⟨d, u, hd, mu, w⟩ => by
  obtain ⟨od, I2⟩ := I.lock hd mu
  exact h.run pins s σ _ D I2 (w od)⟩
/-- a list that is made: one that may be written, or a value -/
def mkL (md : Bool) (xs : List MV) (h : MH) : R MV := if md then .ok (.ref h.length) (h ++ [.lst xs]) else .ok (.lst xs) h
/-! ### words -/
def retE (v : MV) : EF := fun _ h => .ok v h
def varE (i : Nat) : EF := fun μ h => match μ[i]? with
  | some (some v) => .ok v h
  | _ => .bad
def binE (o : MV → MV → MH → R MV) (f g : EF) : EF := fun μ h => (f μ h).bind fun x h1 => (g μ h1).bind fun y h2 => o x y h2
def unE (o : MV → MH → R MV) (f : EF) : EF := fun μ h => (f μ h).bind fun x h1 => o x h1
def nilA : AF := fun _ h => .ok [] h
def consA (f : EF) (g : AF) : AF := fun μ h => (f μ h).bind fun x h1 => (g μ h1).bind fun xs h2 => .ok (x :: xs) h2
def callE (o : List MV → MH → R MV) (f : AF) : EF := fun μ h => (f μ h).bind fun xs h1 => o xs h1
def tupE (f : AF) : EF := fun μ h => (f μ h).bind fun xs h1 => if xs.length ≤ 1000 then .ok (.tup xs) h1 else .bad
def lstE (md : Bool) (f : AF) : EF := fun μ h => (f μ h).bind fun xs h1 => if xs.length ≤ 1000 then mkL md xs h1 else .bad
/-- a value's truth, where it is a truth -/
def isB : MV → MH → R Bool
  | .bl b, h => .ok b h
  | _, _ => .bad
def testT (f : EF) : TF := fun μ h => (f μ h).bind isB
def notT (f : TF) : TF := fun μ h => (f μ h).bind fun b h1 => .ok (!b) h1
def andT (f g : TF) : TF := fun μ h => (f μ h).bind fun b h1 => if b then g μ h1 else .ok false h1
def orT (f g : TF) : TF := fun μ h => (f μ h).bind fun b h1 => if b then .ok true h1 else g μ h1
def notE (f : EF) : EF := fun μ h => (f μ h).bind fun x h1 => (isB x h1).bind fun b h2 => .ok (.bl (!b)) h2
def andE (f g : EF) : EF := fun μ h => (f μ h).bind fun x h1 => (isB x h1).bind fun b h2 => if b then g μ h2 else .ok (.bl false) h2
def orE (f g : EF) : EF := fun μ h => (f μ h).bind fun x h1 => (isB x h1).bind fun b h2 => if b then .ok (.bl true) h2 else g μ h2
def ifE (c : TF) (f g : EF) : EF := fun μ h => (c μ h).bind fun b h1 => if b then f μ h1 else g μ h1

/-- an operation of the machine, and the layer's rule -/
def OpM (K : PySem.W.Frag) (F : Flds) (T : List (Addr × Str)) (r : R2) (o : MV → MV → MH → R MV) : Prop :=
  ∀ (W : WX) (σ : L2.St) (m : Nat → Addr) (h : MH) (H : Hp) (Q : VK) (x y : MV) (u v : V), HR K F T m h H → RV K F H m h.length x u → RV K F H m h.length y v → Po K F T (rlE K F) W m h.length σ H Q (o x y h) → r u v H Q
def UnM (K : PySem.W.Frag) (F : Flds) (T : List (Addr × Str)) (r : V → Hp → VK → Prop) (o : MV → MH → R MV) : Prop :=
  ∀ (W : WX) (σ : L2.St) (m : Nat → Addr) (h : MH) (H : Hp) (Q : VK) (x : MV) (u : V), HR K F T m h H → RV K F H m h.length x u → Po K F T (rlE K F) W m h.length σ H Q (o x h) → r u H Q
/-- .. of a row of values -/
def LsM (K : PySem.W.Frag) (F : Flds) (T : List (Addr × Str)) (r : List V → Hp → VK → Prop) (o : List MV → MH → R MV) : Prop :=
  ∀ (W : WX) (σ : L2.St) (m : Nat → Addr) (h : MH) (H : Hp) (Q : VK) (xs : List MV) (us : List V), HR K F T m h H → RVs K F H m h.length xs us → Po K F T (rlE K F) W m h.length σ H Q (o xs h) → r us H Q
section
variable {X : Cx} {F : Flds} {T : List (Addr × Str)} {O : Ot} {W : WX} {a b c : Expr} {f g : EF} {c1 c2 : TF} {l : AF} {pos : Pos}
theorem pe_retM {e : Expr} {v : MV} {x : V} (h : PE X e (tC x)) (r : ∀ H m n, RV X.K F H m n v x) : PE X e (tE X.K F T O W (retE v)) := PE.imp h fun σ H Q ⟨m, h, μ, s, hr, p⟩ => p m H x (Stp.refl hr) (r _ _ _)
theorem pe_varM {i : Nat} {e : Expr} (h : PE X e (tVar i)) : PE X e (tE X.K F T O W (varE i)) := PE.imp h fun σ H Q ⟨m, h, μ, s, hr, p⟩ => by
  unfold varE at p
  split at p
  · rename_i v hv
    obtain ⟨x, e1, e2⟩ := s.get i v hv
    exact ⟨x, e1, p m H x (Stp.refl hr) e2⟩
  · exact p.elim
theorem pe_opM {r : R2} {op : Operator} {o : MV → MV → MH → R MV} (ho : OpR X (binaryOp op) r) (hm : OpM X.K F T r o) (ha : PE X a (tE X.K F T O W f)) (hb : PE X b (tE X.K F T O W g)) : PE X (.BinOp a op b pos) (tE X.K F T O W (binE o f g)) :=
  PE.imp (pe_op ho ha hb) fun σ H Q ⟨m, h, μ, s, hr, p⟩ => tG.seq s hr p fun x u m1 h1 H1 s1 r1 st1 q1 p1 => tG.seq s1 r1 p1 fun y v m2 h2 H2 s2 r2 st2 q2 p2 => hm W σ m2 h2 H2 Q x y u v r2 (q1.st st2) q2 p2
theorem pe_unM {r : V → Hp → VK → Prop} {op : UnaryOp} {o : MV → MH → R MV} (ho : UnR X (unaryOp op) r) (hm : UnM X.K F T r o) (ha : PE X a (tE X.K F T O W f)) : PE X (.UnaryOp op a pos) (tE X.K F T O W (unE o f)) :=
  PE.imp (pe_un ho ha) fun σ H Q ⟨m, h, μ, s, hr, p⟩ => tG.seq s hr p fun x u m1 h1 H1 s1 r1 st1 q1 p1 => hm W σ m1 h1 H1 Q x u r1 q1 p1
theorem pe_cmpM {r : R2} {op : CmpOp} {o : MV → MV → MH → R MV} (ho : OpR X (compareOp op) r) (hm : OpM X.K F T r o) (ha : PE X a (tE X.K F T O W f)) (hb : PE X b (tE X.K F T O W g)) (hk : behindInMarks op b = false) : PE X (.Compare a [op] [b] pos) (tE X.K F T O W (binE o f g)) :=
  PE.imp (pe_cmpR ho ha hb hk) fun σ H Q ⟨m, h, μ, s, hr, p⟩ => tG.seq s hr p fun x u m1 h1 H1 s1 r1 st1 q1 p1 => tG.seq s1 r1 p1 fun y v m2 h2 H2 s2 r2 st2 q2 p2 => hm W σ m2 h2 H2 Q x y u v r2 (q1.st st2) q2 p2
theorem pa_nilM : PA X [] (tA X.K F T O W nilA) := PA.imp pa_nil fun σ H Q ⟨m, h, μ, s, hr, p⟩ => p m H [] (Stp.refl hr) .nil
theorem pa_consM {e : Expr} {es : List Expr} (ha : PE X e (tE X.K F T O W f)) (hl : PA X es (tA X.K F T O W l)) (hs : starEach (e :: es) X.env = (false, eval e X.env) :: starEach es X.env) : PA X (e :: es) (tA X.K F T O W (consA f l)) :=
  PA.imp (pa_cons ha hl hs) fun σ H Q ⟨m, h, μ, s, hr, p⟩ => tG.seq s hr p fun x u m1 h1 H1 s1 r1 st1 q1 p1 => tG.seq s1 r1 p1 fun xs us m2 h2 H2 s2 r2 st2 q2 p2 => p2 m2 H2 (u :: us) (Stp.refl r2) (.cons (q1.st st2) q2)
theorem pe_tupM {es : List Expr} {k : Nat} (hl : PA X es (tA X.K F T O W l)) : PE X (.Tuple es k pos) (tE X.K F T O W (tupE l)) :=
  PE.imp (pe_tup hl) fun σ H Q ⟨m, h, μ, s, hr, p⟩ => tG.seq s hr p fun xs us m1 h1 H1 s1 r1 st1 q1 p1 => by
    by_cases hx : xs.length ≤ 1000
    · rw [if_pos hx] at p1
      refine ⟨by rw [q1.length]; exact Nat.le_trans hx (by decide), fun q hq => ?_⟩
      have st : Stp X.K F T m1 h1.length H1 m1 h1 (upd H1 q (.tup us)) := r1.aux hq
      exact p1 m1 _ _ st (.tup upd_same (q1.st st))
    · rw [if_neg hx] at p1
      exact p1.elim
theorem Po.mk {K : PySem.W.Frag} {σ : L2.St} {m : Nat → Addr} {h : MH} {H : Hp} {Q : VK} {md : Bool} {xs : List MV} {vs : List V} (p : Po K F T (rlE K F) W m h.length σ H Q (mkL md xs h)) (hr : HR K F T m h H) (r : RVs K F H m h.length xs vs) : ∀ q, H q = none → lkQ Q (.ref q) (upd H q (.lst vs)) := fun q hq => by
  cases md with
  | true =>
    have st : Stp K F T m h.length H (mput m h.length q) (h ++ [.lst xs]) (upd H q (.lst vs)) := hr.new hq ⟨vs, upd_same, r.mo (Fix.new hq) (fun i hi => mput_lt hi) (Nat.le_succ _)⟩
    have e := p _ _ (.ref (mput m h.length q h.length)) st (.ref (by rw [List.length_append]; exact Nat.lt_succ_self _))
    rw [mput_at] at e
    exact .inl e
  | false =>
    refine .inr ⟨q, .lst vs, rfl, upd_same, trivial, fun od => ?_⟩
    rw [upd_upd]
    have st : Stp K F T m h.length H m h (upd H q (.frz od (.lst vs))) := hr.aux hq
    exact p m _ _ st (.lst upd_same (r.st st))
theorem pe_lstM {es : List Expr} {md : Bool} (hl : PA X es (tA X.K F T O W l)) : PE X (.List es pos) (tE X.K F T O W (lstE md l)) :=
  PE.impL (pe_lst hl) fun σ H Q ⟨m, h, μ, s, hr, p⟩ => tG.seq s hr p fun xs us m1 h1 H1 s1 r1 st1 q1 p1 => by
    by_cases hx : xs.length ≤ 1000
    · rw [if_pos hx] at p1
      exact ⟨by rw [q1.length]; exact Nat.le_trans hx (by decide), p1.mk r1 q1⟩
    · rw [if_neg hx] at p1
      exact p1.elim
/-! tests -/
theorem isB_of {K : PySem.W.Frag} {β : Type} {m : Nat → Addr} {n : Nat} {σ : L2.St} {H H1 : Hp} {δ : Type} {rl2 : Rel β δ} {Q : δ → Hp → Prop} {x : MV} {u : V} {h : MH} {k : Bool → MH → R β} (q : RV K F H1 m n x u) (p : Po K F T rl2 W m n σ H Q ((isB x h).bind k)) : ∃ c, x = .bl c ∧ u = .bl c ∧ Po K F T rl2 W m n σ H Q (k c h) := by
  cases x with
  | bl c =>
    cases q
    exact ⟨c, rfl, rfl, p⟩
  | _ => exact p.elim
theorem pt_of {e : Expr} (ha : PE X e (tE X.K F T O W f)) (hp : ∀ {t : TE}, PE X e t → PT X e (tB t)) : PT X e (tT X.K F T O W (testT f)) :=
  PT.imp (hp ha) fun σ H Q ⟨m, h, μ, s, hr, p⟩ => tG.seq s hr p fun x u m1 h1 H1 s1 r1 st1 q1 p1 => by
    cases x with
    | bl c =>
      cases q1
      exact ⟨c, rfl, p1 m1 H1 c (Stp.refl r1) rfl⟩
    | _ => exact p1.elim
theorem pt_notM (ha : PT X a (tT X.K F T O W c1)) : PT X (.UnaryOp .Not a pos) (tT X.K F T O W (notT c1)) :=
  PT.imp (pt_not ha) fun σ H Q ⟨m, h, μ, s, hr, p⟩ => tG.seq s hr p fun x u m1 h1 H1 s1 r1 st1 q1 p1 => by
    cases q1
    exact p1 m1 H1 _ (Stp.refl r1) rfl
theorem pw_andM {rest : List Expr} (ha : PT X a (tT X.K F T O W c1)) (hb : PW X (.BoolOp .And (b :: rest) pos) (tT X.K F T O W c2)) : PW X (.BoolOp .And (a :: b :: rest) pos) (tT X.K F T O W (andT c1 c2)) :=
  PW.imp (pw_and ha hb) fun σ H Q ⟨m, h, μ, s, hr, p⟩ => tG.seq s hr p fun x u m1 h1 H1 s1 r1 st1 q1 p1 => by
    cases q1
    cases x with
    | true => exact tG.mk s1 r1 p1
    | false => exact p1 m1 H1 _ (Stp.refl r1) rfl
theorem pw_orM {rest : List Expr} (ha : PT X a (tT X.K F T O W c1)) (hb : PW X (.BoolOp .Or (b :: rest) pos) (tT X.K F T O W c2)) : PW X (.BoolOp .Or (a :: b :: rest) pos) (tT X.K F T O W (orT c1 c2)) :=
  PW.imp (pw_or ha hb) fun σ H Q ⟨m, h, μ, s, hr, p⟩ => tG.seq s hr p fun x u m1 h1 H1 s1 r1 st1 q1 p1 => by
    cases q1
    cases x with
    | true => exact p1 m1 H1 _ (Stp.refl r1) rfl
    | false => exact tG.mk s1 r1 p1
theorem pe_notM (ha : PE X a (tE X.K F T O W f)) : PE X (.UnaryOp .Not a pos) (tE X.K F T O W (notE f)) :=
  PE.imp (pe_not ha) fun σ H Q ⟨m, h, μ, s, hr, p⟩ => tG.seq s hr p fun x u m1 h1 H1 s1 r1 st1 q1 p1 => by
    cases x with
    | bl c =>
      cases q1
      exact ⟨c, rfl, p1 m1 H1 _ (Stp.refl r1) (.bl _)⟩
    | _ => exact p1.elim
theorem pe_andM {rest : List Expr} (ha : PE X a (tE X.K F T O W f)) (hb : PE X (.BoolOp .And (b :: rest) pos) (tE X.K F T O W g)) : PE X (.BoolOp .And (a :: b :: rest) pos) (tE X.K F T O W (andE f g)) :=
  PE.imp (pe_and ha hb) fun σ H Q ⟨m, h, μ, s, hr, p⟩ => tG.seq s hr p fun x u m1 h1 H1 s1 r1 st1 q1 p1 => by
    cases x with
    | bl c =>
      cases q1
      refine ⟨c, rfl, ?_⟩
      cases c with
      | true => exact tG.mk s1 r1 p1
      | false => exact p1 m1 H1 _ (Stp.refl r1) (.bl _)
    | _ => exact p1.elim
theorem pe_orM {rest : List Expr} (ha : PE X a (tE X.K F T O W f)) (hb : PE X (.BoolOp .Or (b :: rest) pos) (tE X.K F T O W g)) : PE X (.BoolOp .Or (a :: b :: rest) pos) (tE X.K F T O W (orE f g)) :=
  PE.imp (pe_or ha hb) fun σ H Q ⟨m, h, μ, s, hr, p⟩ => tG.seq s hr p fun x u m1 h1 H1 s1 r1 st1 q1 p1 => by
    cases x with
    | bl c =>
      cases q1
      refine ⟨c, rfl, ?_⟩
      cases c with
      | true => exact p1 m1 H1 _ (Stp.refl r1) (.bl _)
      | false => exact tG.mk s1 r1 p1
    | _ => exact p1.elim
theorem pe_ifM (hc : PT X c (tT X.K F T O W c1)) (ha : PE X a (tE X.K F T O W f)) (hb : PE X b (tE X.K F T O W g)) : PE X (.IfExp c a b pos) (tE X.K F T O W (ifE c1 f g)) :=
  PE.imp (pe_ifExp hc ha hb) fun σ H Q ⟨m, h, μ, s, hr, p⟩ => tG.seq s hr p fun x u m1 h1 H1 s1 r1 st1 q1 p1 => by
    cases q1
    cases x with
    | true => exact tG.mk s1 r1 p1
    | false => exact tG.mk s1 r1 p1
end
end M

set_option Elab.async false
set_option linter.all false
set_option maxRecDepth 100000
set_option maxHeartbeats 4000000
/-! operations of the machine -/
namespace M
open PySem PySem.Spec PyProof.Rows L2 DL
abbrev LIM : Nat := 1000000
theorem lim_line {n : Nat} (h : n ≤ LIM) : n ≤ sizeLine := Nat.le_trans h (by rw [sizeLine_eq]; decide)
theorem lim_lt {n : Nat} (h : n < LIM) : n < sizeLine := Nat.lt_of_lt_of_le h (by rw [sizeLine_eq]; decide)
section
variable {K : PySem.W.Frag} {F : Flds} {T : List (Addr × Str)} {O : Ot} {W : WX} {σ : L2.St} {m : Nat → Addr} {h : MH} {H : Hp} {Q : VK}
theorem Po.v {v : MV} {x : V} (p : Po K F T (rlE K F) W m h.length σ H Q (.ok v h)) (hr : HR K F T m h H) (r : RV K F H m h.length v x) : Q x H := p m H x (Stp.refl hr) r
theorem Po.tup {xs : List MV} {vs : List V} (p : Po K F T (rlE K F) W m h.length σ H Q (.ok (.tup xs) h)) (hr : HR K F T m h H) (r : RVs K F H m h.length xs vs) : ∀ q, H q = none → Q (.ref q) (upd H q (.tup vs)) := fun q hq => by
  have st : Stp K F T m h.length H m h (upd H q (.tup vs)) := hr.aux hq
  exact p m _ _ st (.tup upd_same (r.st st))
theorem Po.lst0 {xs : List MV} {vs : List V} (p : Po K F T (rlE K F) W m h.length σ H Q (.ok (.ref h.length) (h ++ [.lst xs]))) (hr : HR K F T m h H) (r : RVs K F H m h.length xs vs) : ∀ q, H q = none → Q (.ref q) (upd H q (.lst vs)) := fun q hq => by
  have st : Stp K F T m h.length H (mput m h.length q) (h ++ [.lst xs]) (upd H q (.lst vs)) := hr.new hq ⟨vs, upd_same, r.mo (Fix.new hq) (fun i hi => mput_lt hi) (Nat.le_succ _)⟩
  have e := p _ _ (.ref (mput m h.length q h.length)) st (.ref (by rw [List.length_append]; exact Nat.lt_succ_self _))
  rwa [mput_at] at e
theorem HR.lst {i : Nat} {xs : List MV} (hr : HR K F T m h H) (e : h[i]? = some (.lst xs)) : ∃ vs, H (m i) = some (.lst vs) ∧ RVs K F H m h.length xs vs := hr.obj i _ e
theorem HR.lt {i : Nat} {o : MO} (e : h[i]? = some o) : i < h.length := (List.getElem?_eq_some_iff.mp e).1
/-- a list is written -/
theorem HR.setL {i : Nat} {xs ys : List MV} {vs : List V} (hr : HR K F T m h H) (e : h[i]? = some (.lst xs)) (r : RVs K F H m h.length ys vs) : Stp K F T m h.length H m (h.set i (.lst ys)) (upd H (m i) (.lst vs)) := by
  obtain ⟨ws, e1, _⟩ := hr.lst e
  refine hr.put (HR.lt e) e1 (fun z => z) (fun ps z => by cases z) ⟨vs, upd_same, ?_⟩
  exact r.mo (Fix.set e1 fun z => z) (fun _ _ => rfl) (Nat.le_refl _)
end
/-- a list that is read -/
def lstM (h : MH) : MV → Option (List MV)
  | .lst xs => some xs
  | .ref i => match h[i]? with
    | some (.lst xs) => some xs
    | _ => none
  | _ => none
/-- a list or tuple, that is read -/
def seqM (h : MH) : MV → Option (List MV)
  | .tup xs => some xs
  | .scr xs => some xs
  | .lst xs => some xs
  | .ref i => match h[i]? with
    | some (.lst xs) => some xs
    | _ => none
  | _ => none
theorem seq_lst {h : MH} {x : MV} {xs : List MV} (e : lstM h x = some xs) : seqM h x = some xs := by
  cases x <;> first | exact e | cases e
section
variable {K : PySem.W.Frag} {F : Flds} {T : List (Addr × Str)} {O : Ot} {m : Nat → Addr} {h : MH} {H : Hp}
theorem lstM_rd {x : MV} {u : V} {xs : List MV} (hr : HR K F T m h H) (r : RV K F H m h.length x u) (e : lstM h x = some xs) : ∃ a vs, u = .ref a ∧ Rd H a (.lst vs) ∧ RVs K F H m h.length xs vs := by
  cases r with
  | lst h1 h2 =>
    cases e
    exact ⟨_, _, rfl, .inr ⟨_, h1⟩, h2⟩
  | ref hi =>
    rename_i i
    unfold lstM at e
    dsimp only at e
    split at e
    · rename_i ys q
      cases e
      obtain ⟨vs, e1, e2⟩ := hr.obj i _ q
      exact ⟨_, vs, rfl, .inl e1, e2⟩
    · cases e
  | _ => cases e
theorem lstM_ok {x : MV} {u : V} {xs : List MV} (hr : HR K F T m h H) (r : RV K F H m h.length x u) (e : lstM h x = some xs) : ∃ a vs, u = .ref a ∧ SqL K H a vs ∧ RVs K F H m h.length xs vs := by
  obtain ⟨a, vs, e1, e2, e3⟩ := lstM_rd hr r e
  exact ⟨a, vs, e1, .inl e2, e3⟩
theorem seqM_ok {x : MV} {u : V} {xs : List MV} (hr : HR K F T m h H) (r : RV K F H m h.length x u) (e : seqM h x = some xs) : ∃ a vs, u = .ref a ∧ (SqL K H a vs ∨ SqT K H a vs) ∧ RVs K F H m h.length xs vs := by
  cases r with
  | tup h1 h2 =>
    cases e
    exact ⟨_, _, rfl, .inr (SqT.of h1), h2⟩
  | lst h1 h2 =>
    cases e
    exact ⟨_, _, rfl, .inl (.inl (.inr ⟨_, h1⟩)), h2⟩
  | scr h1 h2 =>
    cases e
    exact ⟨_, _, rfl, .inl (h1.imp .inr fun z => z), h2⟩
  | ref hi =>
    obtain ⟨a, vs, e1, e2, e3⟩ := lstM_ok hr (.ref hi) (x := .ref _) e
    exact ⟨a, vs, e1, .inl e2, e3⟩
  | _ => cases e
end
/-! ### data -/
def toDs (f : MV → Option PyData) : List MV → Option (List PyData)
  | [] => some []
  | x :: xs => match f x, toDs f xs with
    | some d, some ds => some (d :: ds)
    | _, _ => none
/-- what a value is, all the way in -/
def toD (h : MH) : Nat → MV → Option PyData
  | _, .non => some .none
  | _, .bl b => some (.bool b)
  | _, .int i => some (.int i)
  | _, .str s => some (.str s)
  | 0, _ => none
  | n + 1, .tup xs => (toDs (toD h n) xs).map .tuple
  | n + 1, .lst xs => (toDs (toD h n) xs).map .list
  | n + 1, .ref i => match h[i]? with
    | some (.lst xs) => (toDs (toD h n) xs).map .list
    | _ => none
  | _, _ => none
section
variable {K : PySem.W.Frag} {F : Flds} {T : List (Addr × Str)} {O : Ot} {m : Nat → Addr} {h : MH} {H : Hp}
theorem toDs_ok {f : MV → Option PyData} (hf : ∀ x u d, RV K F H m h.length x u → f x = some d → Dp K H u d) : ∀ {xs : List MV} {vs : List V} {ds : List PyData}, RVs K F H m h.length xs vs → toDs f xs = some ds → DpAll K H vs ds
  | _, _, _, .nil, e => by
    cases e
    exact .nil
  | _, _, _, .cons a b, e => by
    unfold toDs at e
    split at e
    · rename_i d ds e1 e2
      cases e
      exact .cons (hf _ _ _ a e1) (toDs_ok hf b e2)
    · cases e
theorem toD_ok (hr : HR K F T m h H) : ∀ (n : Nat) (x : MV) (u : V) (d : PyData), RV K F H m h.length x u → toD h n x = some d → Dp K H u d := fun n => by
  induction n with
  | zero =>
    intro x u d r e
    cases r <;> first | (cases e; constructor) | cases e
  | succ n ih =>
    intro x u d r e
    cases r with
    | non => cases e; exact .non
    | bl b => cases e; exact .bl b
    | int i => cases e; exact .int i
    | str s => cases e; exact .str s
    | lst h1 h2 =>
      unfold toD at e
      obtain ⟨ds, e1, e2⟩ := Option.map_eq_some_iff.mp e
      subst e2
      exact .lst (.inl (.inr ⟨_, h1⟩)) (toDs_ok ih h2 e1)
    | tup h1 h2 =>
      unfold toD at e
      obtain ⟨ds, e1, e2⟩ := Option.map_eq_some_iff.mp e
      subst e2
      exact .tup (SqT.of h1) (toDs_ok ih h2 e1)
    | ref hi =>
      rename_i i
      unfold toD at e
      split at e
      · rename_i xs q
        obtain ⟨ds, e1, e2⟩ := Option.map_eq_some_iff.mp e
        subst e2
        obtain ⟨vs, q1, q2⟩ := hr.obj i _ q
        exact .lst (SqL.of q1) (toDs_ok ih q2 e1)
      · cases e
    | _ => cases e
end
/-! ### + - * // % ** -/
def strRep (z : Str) (k : Int) : Str := ⟨(List.replicate k.toNat z.cps).foldl (· ++ ·) #[]⟩
def addM (md : Bool) : MV → MV → MH → R MV
  | .int i, .int j, h => .ok (.int (i + j)) h
  | .int i, .bl b, h => .ok (.int (i + b2i b)) h
  | .str x, .str y, h => if x.length + y.length ≤ LIM then .ok (.str (x ++ y)) h else .bad
  | .tup xs, .tup ys, h => if xs.length + ys.length ≤ LIM then .ok (.tup (xs ++ ys)) h else .bad
  | x, y, h => match lstM h x, lstM h y with
    | some xs, some ys => if xs.length + ys.length ≤ LIM then mkL md (xs ++ ys) h else .bad
    | _, _ => .bad
def intM (C : Int → Int → Bool) (g : Int → Int → MV) : MV → MV → MH → R MV
  | .int i, .int j, h => if C i j then .ok (g i j) h else .bad
  | _, _, _ => .bad
def subM := intM (fun _ _ => true) fun i j => .int (i - j)
def mulOk (i j : Int) : Bool := decide (i.natAbs < 18446744073709551616) || decide (j.natAbs < 18446744073709551616) || decide (i.natAbs.log2 + j.natAbs.log2 < 1000000)
def divOk (_ j : Int) : Bool := decide (j ≠ 0) && decide (j.natAbs.log2 < 9000)
def powOk (i j : Int) : Bool := decide (0 ≤ j) && decide (j ≤ 1000000) && decide (i.natAbs < 2 ^ 64)
def mulM (md : Bool) : MV → MV → MH → R MV
  | .int i, .int j, h => if mulOk i j then .ok (.int (i * j)) h else .bad
  | .str z, .int k, h => if decide (0 ≤ k) && decide (k ≤ 1000) && decide (z.length ≤ 1000) then .ok (.str (strRep z k)) h else .bad
  | .tup xs, .int k, h => if decide (-(2 ^ 63) ≤ k) && decide (k ≤ 1000) && decide (xs.length ≤ 1000) then .ok (.tup (List.replicate k.toNat xs).flatten) h else .bad
  | x, .int k, h => match lstM h x with
    | some xs => if decide (-(2 ^ 63) ≤ k) && decide (k < 2 ^ 63) && decide (xs.length * k.toNat ≤ LIM) then mkL md (List.replicate k.toNat xs).flatten h else .bad
    | _ => .bad
  | _, _, _ => .bad
def fdivM := intM divOk fun i j => .int (i.fdiv j)
def modM := intM (fun _ j => decide (j ≠ 0)) fun i j => .int (i.fmod j)
def powM := intM powOk fun i j => .int (i ^ j.toNat)
def negM : MV → MH → R MV
  | .int i, h => .ok (.int (-i)) h
  | _, _ => .bad
def ltM := intM (fun _ _ => true) fun i j => .bl (decide (i < j))
def leM := intM (fun _ _ => true) fun i j => .bl (decide (i ≤ j))
def gtM := intM (fun _ _ => true) fun i j => .bl (decide (j < i))
def geM := intM (fun _ _ => true) fun i j => .bl (decide (j ≤ i))
def eqM (x y : MV) (h : MH) : R MV := match toD h 64 x, toD h 64 y with
  | some d, some e => if SeqAt.shaped d && SeqAt.shaped e then .ok (.bl (PyData.eqv d e)) h else .bad
  | _, _ => .bad
def neM (x y : MV) (h : MH) : R MV := match toD h 64 x, toD h 64 y with
  | some d, some e => if SeqAt.shaped d && SeqAt.shaped e then .ok (.bl (!PyData.eqv d e)) h else .bad
  | _, _ => .bad
def isNM (x y : MV) (h : MH) : R MV := match y with
  | .non => .ok (.bl (match x with | .non => true | _ => false)) h
  | _ => .bad
def notNM (x y : MV) (h : MH) : R MV := match y with
  | .non => .ok (.bl (match x with | .non => false | _ => true)) h
  | _ => .bad
section
variable {K : PySem.W.Frag} {F : Flds} {T : List (Addr × Str)} {O : Ot}
theorem intM_ok {C : Int → Int → Bool} {C' : Int → Int → Prop} {g : Int → Int → MV} {g' : Int → Int → V} (hC : ∀ i j, C i j = true → C' i j) (hg : ∀ i j H m n, RV K F H m n (g i j) (g' i j)) : OpM K F T (rI C' g') (intM C g) := fun W σ m h H Q x y u v hr rx ry p => by
  cases rx with
  | int i =>
    cases ry with
    | int j =>
      unfold intM at p
      dsimp only at p
      split at p
      · rename_i hc
        exact ⟨i, j, rfl, rfl, hC i j hc, p.v hr (hg i j H m _)⟩
      · exact p.elim
    | _ => exact p.elim
  | _ => exact p.elim
theorem intM_ok0 {g : Int → Int → MV} {g' : Int → Int → V} (hg : ∀ i j H m n, RV K F H m n (g i j) (g' i j)) : OpM K F T (rI0 g') (intM (fun _ _ => true) g) := fun W σ m h H Q x y u v hr rx ry p => by
  obtain ⟨i, j, a, b, _, q⟩ := intM_ok (C' := fun _ _ => True) (fun _ _ _ => trivial) hg W σ m h H Q x y u v hr rx ry p
  exact ⟨i, j, a, b, q⟩
theorem om_sub : OpM K F T (rI0 fun i j => .int (i - j)) subM := intM_ok0 fun _ _ _ _ _ => .int _
theorem om_fdiv : OpM K F T (rI CDivA fun i j => .int (i.fdiv j)) fdivM := intM_ok (fun i j e => by
  unfold divOk at e
  rw [Bool.and_eq_true] at e
  exact ⟨of_decide_eq_true e.1, of_decide_eq_true e.2⟩) fun _ _ _ _ _ => .int _
theorem om_mod : OpM K F T (rI (fun _ j => j ≠ 0) fun i j => .int (i.fmod j)) modM := intM_ok (fun i j e => of_decide_eq_true e) fun _ _ _ _ _ => .int _
theorem om_pow : OpM K F T (rI CPow fun i j => .int (i ^ j.toNat)) powM := intM_ok (fun i j e => by
  unfold powOk at e
  rw [Bool.and_eq_true, Bool.and_eq_true] at e
  exact ⟨of_decide_eq_true e.1.1, of_decide_eq_true e.1.2, of_decide_eq_true e.2⟩) fun _ _ _ _ _ => .int _
theorem om_lt : OpM K F T (rI0 fun i j => .bl (decide (i < j))) ltM := intM_ok0 fun _ _ _ _ _ => .bl _
theorem om_le : OpM K F T (rI0 fun i j => .bl (decide (i ≤ j))) leM := intM_ok0 fun _ _ _ _ _ => .bl _
theorem om_gt : OpM K F T (rI0 fun i j => .bl (decide (j < i))) gtM := intM_ok0 fun _ _ _ _ _ => .bl _
theorem om_ge : OpM K F T (rI0 fun i j => .bl (decide (j ≤ i))) geM := intM_ok0 fun _ _ _ _ _ => .bl _
theorem um_neg : UnM K F T (rU fun i => .int (-i)) negM := fun W σ m h H Q x u hr rx p => by
  cases rx with
  | int i => exact ⟨i, rfl, p.v hr (.int _)⟩
  | _ => exact p.elim
theorem om_eq : OpM K F T (rEqD K) eqM := fun W σ m h H Q x y u v hr rx ry p => by
  unfold eqM at p
  split at p
  · rename_i d e e1 e2
    split at p
    · rename_i hs
      rw [Bool.and_eq_true] at hs
      exact ⟨d, e, toD_ok hr _ _ _ _ rx e1, toD_ok hr _ _ _ _ ry e2, hs.1, hs.2, p.v hr (.bl _)⟩
    · exact p.elim
  · exact p.elim
theorem om_ne : OpM K F T (rNeD K) neM := fun W σ m h H Q x y u v hr rx ry p => by
  unfold neM at p
  split at p
  · rename_i d e e1 e2
    split at p
    · rename_i hs
      rw [Bool.and_eq_true] at hs
      exact ⟨d, e, toD_ok hr _ _ _ _ rx e1, toD_ok hr _ _ _ _ ry e2, hs.1, hs.2, p.v hr (.bl _)⟩
    · exact p.elim
  · exact p.elim
theorem om_isN : OpM K F T (fun x y H Q => y = .non ∧ Q (.bl (decide (x = .non))) H) isNM := fun W σ m h H Q x y u v hr rx ry p => by
  cases ry with
  | non =>
    refine ⟨rfl, ?_⟩
    have e := p.v hr (.bl _)
    cases rx <;> exact e
  | _ => exact p.elim
theorem om_notN : OpM K F T (fun x y H Q => y = .non ∧ Q (.bl (!decide (x = .non))) H) notNM := fun W σ m h H Q x y u v hr rx ry p => by
  cases ry with
  | non =>
    refine ⟨rfl, ?_⟩
    have e := p.v hr (.bl _)
    cases rx <;> exact e
  | _ => exact p.elim
end
end M

set_option Elab.async false
set_option linter.all false
set_option maxRecDepth 100000
set_option maxHeartbeats 4000000
/-! a tuple times any small number, a str times one; + of all kinds; * of all kinds -/
namespace M
open PySem PySem.Spec PyProof.Rows L2 DL
theorem tuple_mulE (l : Addr) (n : Nat) (dd : Option Addr) (sl : Array (Option Value)) (k : Int) (u : Tok) (c0 : (decide (k < -(2 ^ 63)) || decide (k ≥ 2 ^ 63)) = false) :
    Meets (Builtin.«tuple.__mul__» ⟨[.ref l, .int k u], []⟩) (fun _ R s => s.heap.get? l = some { cls := .type "tuple", dict := dd, data := .seq #[] n, slots := sl } ∧
      R (.ok (.ret (Value.ref l))) s) :=
  .of_wp fun prog w A R s h => by
    obtain ⟨hp, g, d, tk, os⟩ := s
    obtain ⟨hl, h⟩ := h
    have f1 := AutoSeq1.idx_int
    wp_walk using wpAny_loadPart' hl
    repeat (first
      | (refine wpAny_ite_false (decide_eq_false (by rw [c0]; exact Bool.false_ne_true)) ?_; wp_walk using wpAny_loadPart' hl))
    exact ⟨_, rfl, h⟩
theorem tuple_mul0 (l : Addr) (items : Array Value) (n : Nat) (dd : Option Addr) (sl : Array (Option Value)) (x : Int) (u : Tok) (c0 : (decide (x < -(2 ^ 63)) || decide (x ≥ 2 ^ 63)) = false) (c1 : (items.isEmpty || x == 1) = false) (c2 : (decide (x ≤ 0) || items.isEmpty) = true) :
    Meets (Builtin.«tuple.__mul__» ⟨[.ref l, .int x u], []⟩) (fun _ R s => s.heap.get? l = some { cls := .type "tuple", dict := dd, data := .seq items n, slots := sl } ∧
      R (.ok (.ret (Value.ref s.heap.objs.size))) { s with heap := s.heap.push { cls := Value.type "tuple", data := Data.seq #[] }, toks := s.toks }) :=
  .of_wp fun prog w A R s h => by
    obtain ⟨hp, g, d, tk, os⟩ := s
    obtain ⟨hl, h⟩ := h
    have f1 := AutoSeq1.idx_int
    wp_walk using wpAny_loadPart' hl
    repeat (first
      | (refine wpAny_ite_false (decide_eq_false (by rw [c0]; exact Bool.false_ne_true)) ?_; wp_walk using wpAny_loadPart' hl)
      | (refine wpAny_ite_false (decide_eq_false (by rw [c1]; exact Bool.false_ne_true)) ?_; wp_walk using wpAny_loadPart' hl)
      | (refine wpAny_ite_true (decide_eq_true (by rw [c2])) ?_; wp_walk using wpAny_loadPart' hl))
    exact ⟨_, rfl, h⟩
def rRepTZ (K : PySem.W.Frag) : R2 := fun x y H Q => ∃ l k xs, x = .ref l ∧ y = .int k ∧ SqT K H l xs ∧ -(2 ^ 63) ≤ k ∧ k ≤ 1000 ∧ xs.length ≤ 1000 ∧ ((xs = [] ∨ k = 1) → Q (.ref l) H) ∧ (xs ≠ [] → k ≠ 1 → ∀ p, H p = none → Q (.ref p) (upd H p (.tup (List.replicate k.toNat xs).flatten)))
section
variable {X : Cx}
theorem op_repTZ : OpR X (binaryOp .Mult) (rRepTZ X.K) := by
  intro pins s σ H x y v u Q I rx ry h
  obtain ⟨l, k, xs, rfl, rfl, hT, h0, h2, hz, q1, q⟩ := h
  by_cases hne : xs = []
  · have q3 := q1 (.inl hne)
    clear q1 q
    subst hne
    cases rx
    obtain ⟨t, rfl⟩ := ry
    obtain ⟨its, r, ⟨⟨cls, dd, data, sl⟩, ho, hc, n, hd⟩, hs⟩ := I.tuple hT
    simp only at hc hd
    subst hc hd
    cases r
    have c0 : (decide (k < -(2 ^ 63)) || decide (k ≥ 2 ^ 63)) = false := by
      rw [decide_eq_false (by omega), decide_eq_false (by omega)] <;> rfl
    exact wpAny_binaryOp_repeat_ref (T := "tuple") (U := "int") (by decide) ⟨_, ho, rfl⟩ (fun s' => typeIs_int s' k t) noFill_tuple_mul F.fills_int_mul F.slot_int_rmul repeat_tuple F.slot_int_index.lookup
      (call_meets F.slot_int_rmul (typeIs_int s k t) F.entry_int_rmul (F.args_int_rmul_2 _ _) (int_rmul_tuple k t l _ n dd sl)
        ⟨ho, rfl, ⟨_, ho, rfl⟩, call_meets F.slot_tuple_mul ⟨_, ho, rfl⟩ F.entry_tuple_mul (F.args_tuple_mul_2 _ _) (tuple_mulE l n dd sl k t c0) ⟨ho, .ref l, H, I, rfl, q3⟩⟩)
  · by_cases hk : k = 1
    · have q3 := q1 (.inr hk)
      clear q1 q
      subst hk
      cases rx
      obtain ⟨t, rfl⟩ := ry
      obtain ⟨its, r, ⟨⟨cls, dd, data, sl⟩, ho, hc, n, hd⟩, hs⟩ := I.tuple hT
      simp only at hc hd
      subst hc hd
      exact wpAny_binaryOp_repeat_ref (T := "tuple") (U := "int") (by decide) ⟨_, ho, rfl⟩ (fun s' => typeIs_int s' 1 t) noFill_tuple_mul F.fills_int_mul F.slot_int_rmul repeat_tuple F.slot_int_index.lookup
        (call_meets F.slot_int_rmul (typeIs_int s 1 t) F.entry_int_rmul (F.args_int_rmul_2 _ _) (int_rmul_tuple 1 t l its.toArray n dd sl)
          ⟨ho, rfl, ⟨_, ho, rfl⟩, call_meets F.slot_tuple_mul ⟨_, ho, rfl⟩ F.entry_tuple_mul (F.args_tuple_mul_2 _ _) (tuple_mul1 l its.toArray n dd sl t) ⟨ho, .ref l, H, I, rfl, q3⟩⟩)
    · by_cases hp : 1 ≤ k
      · exact op_repT pins s σ H (.ref l) (.int k) v u Q I rx ry ⟨l, k, xs, rfl, rfl, hT, hne, by omega, h2, hz, q hne hk⟩
      · have q := q hne hk
        cases rx
        obtain ⟨t, rfl⟩ := ry
        obtain ⟨its, r, ⟨⟨cls, dd, data, sl⟩, ho, hc, n, hd⟩, hs⟩ := I.tuple hT
        simp only at hc hd
        subst hc hd
        have hle : its.length = xs.length := r.length.symm
        have hn : its ≠ [] := fun e => hne (by
          rw [e] at hle
          exact List.eq_nil_of_length_eq_zero hle.symm)
        have hi : its.toArray.isEmpty = false := by
          cases its with
          | nil => exact absurd rfl hn
          | cons a b => rfl
        have c0 : (decide (k < -(2 ^ 63)) || decide (k ≥ 2 ^ 63)) = false := by
          rw [decide_eq_false (by omega), decide_eq_false (by omega)] <;> rfl
        have c1 : (its.toArray.isEmpty || k == 1) = false := by
          rw [hi, Bool.false_or]
          exact beq_eq_false_iff_ne.mpr (by omega)
        have c2 : (decide (k ≤ 0) || its.toArray.isEmpty) = true := by
          rw [hi, Bool.or_false]
          exact decide_eq_true (by omega)
        refine wpAny_binaryOp_repeat_ref (T := "tuple") (U := "int") (by decide) ⟨_, ho, rfl⟩ (fun s' => typeIs_int s' k t) noFill_tuple_mul F.fills_int_mul F.slot_int_rmul repeat_tuple F.slot_int_index.lookup
          (call_meets F.slot_int_rmul (typeIs_int s k t) F.entry_int_rmul (F.args_int_rmul_2 _ _) (int_rmul_tuple k t l its.toArray n dd sl)
            ⟨ho, rfl, ⟨_, ho, rfl⟩, call_meets F.slot_tuple_mul ⟨_, ho, rfl⟩ F.entry_tuple_mul (F.args_tuple_mul_2 _ _) (tuple_mul0 l its.toArray n dd sl k t c0 c1 c2) ⟨ho, ?_⟩⟩)
        have e0 : k.toNat = 0 := by omega
        rw [e0] at q
        refine ⟨.ref s.heap.objs.size, _, I.laid (t' := s.toks) (o := .tup []) (fun b ob q => Heap.get?_push_of_some _ q) (Nat.le_refl _) ?_, rfl, q _ (I.hok.fresh (Nat.le_refl _))⟩
        exact ⟨Nat.zero_le _, [], .nil, IsTup.new _ _⟩
end
end M

set_option Elab.async false
set_option linter.all false
set_option maxRecDepth 100000
set_option maxHeartbeats 4000000
/-! + and * of all kinds; places; slices; in; is -/
namespace M
open PySem PySem.Spec PyProof.Rows L2 DL
def rRepSX : R2 := fun x y H Q => ∃ (z : Str) (k : Int), x = .str z ∧ y = .int k ∧ 0 ≤ k ∧ k ≤ 1000 ∧ z.length ≤ 1000 ∧ Q (.str (strRep z k)) H
theorem foldl_empty : ∀ (n : Nat), (List.replicate n (#[] : Array Nat)).foldl (· ++ ·) #[] = #[]
  | 0 => rfl
  | n + 1 => by
    rw [List.replicate_succ, List.foldl_cons]
    exact foldl_empty n
theorem op_repSX {X : Cx} : OpR X (binaryOp .Mult) rRepSX := by
  intro pins s σ H x y v u Q I rx ry h
  obtain ⟨z, k, rfl, rfl, h0, h1, hz, q⟩ := h
  obtain ⟨t, rfl⟩ := rx
  obtain ⟨t', rfl⟩ := ry
  have hm : k.toNat * z.length ≤ 1000 * 1000 := Nat.mul_le_mul (by omega) hz
  refine PySem.P.mul_str ?_ (fun a b => ?_) (fun a b => ?_) ?_
  · rw [decide_eq_false (by omega), decide_eq_false (by omega)] <;> rfl
  · have e : (9223372036854775 : Int) ≤ (2 ^ 63 - 1) / k := by
      refine Int.le_ediv_of_mul_le (by omega) ?_
      omega
    omega
  · unfold Builtin.Str.tooLong
    rw [sizeLine_eq, Nat.mul_comm]
    exact decide_eq_false (by omega)
  · split
    · rename_i hc
      have e : strRep z k = Str.empty := by
        unfold strRep
        rw [show k.toNat = 0 by omega]
        rfl
      exact ⟨by decide, .str _, H, I.tok _, ⟨_, rfl⟩, e ▸ q⟩
    · split
      · rename_i hc
        have e : strRep z k = z := by
          unfold strRep
          rw [Bool.or_eq_true] at hc
          rcases hc with hc | hc
          · have hk : k = 1 := eq_of_beq hc
            subst hk
            show (⟨#[] ++ z.cps⟩ : Str) = z
            rw [Array.empty_append]
          · have hz0 : z.cps = #[] := Array.eq_empty_of_size_eq_zero (eq_of_beq hc)
            rw [hz0, foldl_empty, ← hz0]
        exact ⟨.str z, H, I, ⟨_, rfl⟩, e ▸ q⟩
      · refine ⟨?_, .str _, H, I.tok _, ⟨_, rfl⟩, q⟩
        show (List.foldl (· ++ ·) #[] (List.replicate k.toNat z.cps)).size ≤ sizeLine
        rw [foldl_size, sizeLine_eq]
        have : k.toNat * z.cps.size ≤ 1000 * 1000 := hm
        simp only [Array.size_empty]
        omega
/-! ### lists, locked ones too -/
def rCatR : R2 := fun x y H Q => ∃ l b xs zs, x = .ref l ∧ y = .ref b ∧ Rd H l (.lst xs) ∧ Rd H b (.lst zs) ∧ xs.length + zs.length ≤ sizeLine ∧ ∀ p, H p = none → Q (.ref p) (upd H p (.lst (xs ++ zs)))
theorem op_catR {X : Cx} : OpR X (binaryOp .Add) rCatR := by
  intro pins s σ H x y v u Q I rx ry h
  obtain ⟨l, b, xs, zs, rfl, rfl, hH, hB, hz, q⟩ := h
  cases rx
  cases ry
  obtain ⟨z, its, n, r, e⟩ := hH.ok I.hok
  obtain ⟨z2, its2, n2, r2, e2⟩ := hB.ok I.hok
  have hl := r.length
  have hl2 := r2.length
  refine PySem.P.add_list e e2 ?_ (by rw [List.size_toArray, List.size_toArray]; omega)
  have ea : its.toArray ++ its2.toArray = (its ++ its2).toArray := by simp
  rw [ea]
  exact ⟨.ref _, _, I.lnew (t' := s.toks) (r.append r2) (by rw [List.length_append]; omega), rfl, q _ I.fresh⟩
def rRepR : R2 := fun x y H Q => ∃ l k xs, x = .ref l ∧ y = .int k ∧ Rd H l (.lst xs) ∧ -(2 ^ 63) ≤ k ∧ k < 2 ^ 63 ∧ xs.length * k.toNat ≤ sizeLine ∧
  ∀ p, H p = none → Q (.ref p) (upd H p (.lst (List.replicate k.toNat xs).flatten))
theorem op_repR {X : Cx} : OpR X (binaryOp .Mult) rRepR := by
  intro pins s σ H x y v u Q I rx ry h
  obtain ⟨l, k, xs, rfl, rfl, hH, h1, h2, hz, q⟩ := h
  cases rx
  obtain ⟨t, rfl⟩ := ry
  obtain ⟨z, its, n, r, e⟩ := hH.ok I.hok
  have hl := r.length
  have hlen : its.toArray.size * k.toNat ≤ sizeLine := by rw [List.size_toArray, ← hl]; exact hz
  have hcap : ¬ its.toArray.size * k.toNat > (2 ^ 63 - 1) / 8 := by
    have : (sizeLine : Nat) ≤ (2 ^ 63 - 1) / 8 := by decide
    omega
  have hfit : ¬ (!Builtin.List.listFitsIndex k) = true := by
    rw [fitsIndex_both h1 h2]
    exact Bool.false_ne_true
  have hlong : ¬ Builtin.List.listTooLong (its.toArray.size * k.toNat) = true := by
    rw [notLongL hlen]
    exact Bool.false_ne_true
  have hnew : List.foldl (fun x1 x2 => x1 ++ x2) #[] (List.replicate (if its.toArray.isEmpty = true then 0 else k.toNat) its.toArray) = (List.replicate k.toNat its).flatten.toArray := by
    have f0 : ∀ m : Nat, List.foldl (fun x1 x2 => x1 ++ x2) #[] (List.replicate m its.toArray) = (List.replicate m its).flatten.toArray := fun m => by
      have := foldl_rep its m []
      rw [List.nil_append] at this
      exact this
    rw [f0]
    cases its with
    | nil => simp
    | cons a r' => rw [if_neg (by simp)]
  refine wpAny_binaryOp_repeat_ref (T := "list") (U := "int") (by decide) ⟨_, e, rfl⟩ (fun s' => typeIs_int s' k t) noFill_list_mul F.fills_int_mul F.slot_int_rmul repeat_list F.slot_int_index.lookup
    (call_meets F.slot_int_rmul (typeIs_int s k t) F.entry_int_rmul (F.args_int_rmul_2 _ _) (int___rmul___int_list k t l its.toArray n)
      ⟨e, rfl, ⟨_, e, rfl⟩, call_meets F.slot_list_mul ⟨_, e, rfl⟩ F.entry_list_mul (F.args_list_mul_2 _ _) (AutoListH.list___mul___list_int_3 l its.toArray n k t hfit hcap hlong) ⟨e, ?_⟩⟩)
  rw [hnew]
  exact ⟨.ref _, _, I.lnew (t' := s.toks) (r.rep k.toNat) (by rw [PyProof.Rows.lm_len_rep_flat, Nat.mul_comm]; exact hz), rfl, q _ I.fresh⟩
/-! ### what is handed on may be locked -/
theorem EP.lk {X : Cx} {pins : List (Addr × Obj)} {σ : L2.St} {Q : VK} {v : Value} {s : Shared} (e : EP X pins σ (lkQ Q) v s) : EP X pins σ Q v s := by
  obtain ⟨x, H', I', r, q⟩ := e
  rcases q with q | ⟨d, u, e, hd, mu, q⟩
  · exact ⟨x, H', I', r, q⟩
  · obtain ⟨od, I2⟩ := I'.lock hd mu
    exact ⟨x, _, I2, r, q od⟩
abbrev lk2 (r : R2) : R2 := fun x y H Q => r x y H (lkQ Q)
theorem OpR.lk {X : Cx} {op : Value → Value → Sem Value} {r : R2} (h : OpR X op r) : OpR X op (lk2 r) := fun pins s σ H x y v u Q I rx ry w => thn (h pins s σ H x y v u _ I rx ry w) fun _ _ q => EP.lk q
section
variable {K : PySem.W.Frag} {F : Flds} {T : List (Addr × Str)} {O : Ot}
def rAdd (K : PySem.W.Frag) : R2 := fun x y H Q => (rI0 fun i j => .int (i + j)) x y H Q ∨ (∃ i k, x = .int i ∧ y = .bl k ∧ Q (.int (i + b2i k)) H) ∨ (∃ i j, x = .str i ∧ y = .str j ∧ i.length + j.length ≤ sizeLine ∧ Q (.str (i ++ j)) H) ∨ rCatA K x y H Q ∨ rCatR x y H Q
theorem op_addA {X : Cx} : OpR X (binaryOp .Add) (rAdd X.K) := op_add.or (op_add_ib.or (op_add_str.or (op_catA.or op_catR)))
theorem om_add {md : Bool} : OpM K F T (lk2 (rAdd K)) (addM md) := fun W σ m h H Q x y u v hr rx ry p => by
  unfold addM at p
  split at p
  · cases rx
    cases ry
    exact .inl ⟨_, _, rfl, rfl, .inl (p.v hr (.int _))⟩
  · cases rx
    cases ry
    exact .inr (.inl ⟨_, _, rfl, rfl, .inl (p.v hr (.int _))⟩)
  · cases rx
    cases ry
    split at p
    · rename_i hl
      exact .inr (.inr (.inl ⟨_, _, rfl, rfl, lim_line hl, .inl (p.v hr (.str _))⟩))
    · exact p.elim
  · rename_i _ xs ys
    cases rx with
    | tup h1 r1 =>
      cases ry with
      | tup h2 r2 =>
        rename_i us a vs b
        split at p
        · rename_i hl
          refine .inr (.inr (.inr (.inl ⟨a, b, us, vs, rfl, rfl, SqT.of h1, SqT.of h2, by rw [r1.length, r2.length]; exact lim_line hl, fun e => .inl ?_, fun _ e => .inl ?_, fun _ _ p' hp' => .inl (p.tup hr (r1.app r2) p' hp')⟩)))
          · have : xs = [] := List.eq_nil_of_length_eq_zero (by rw [← r1.length, e]; rfl)
            subst this
            exact p.v hr (.tup h2 r2)
          · have : ys = [] := List.eq_nil_of_length_eq_zero (by rw [← r2.length, e]; rfl)
            subst this
            rw [List.append_nil] at p
            exact p.v hr (.tup h1 r1)
        · exact p.elim
  · split at p
    · rename_i xs ys e1 e2
      split at p
      · rename_i hl
        obtain ⟨a, us, rfl, a1, a2⟩ := lstM_rd hr rx e1
        obtain ⟨b, vs, rfl, b1, b2⟩ := lstM_rd hr ry e2
        exact .inr (.inr (.inr (.inr ⟨_, _, us, vs, rfl, rfl, a1, b1, by rw [a2.length, b2.length]; exact lim_line hl, p.mk hr (a2.app b2)⟩)))
      · exact p.elim
    · exact p.elim
theorem RVs.rep {H : Hp} {m : Nat → Addr} {n : Nat} {xs : List MV} {vs : List V} (r : RVs K F H m n xs vs) : ∀ k : Nat, RVs K F H m n (List.replicate k xs).flatten (List.replicate k vs).flatten
  | 0 => .nil
  | k + 1 => by
    rw [List.replicate_succ, List.replicate_succ, List.flatten_cons, List.flatten_cons]
    exact r.app (RVs.rep r k)
def CMulA (i j : Int) : Prop := CMulW i j ∨ CMul i j
theorem op_mulB {X : Cx} : OpR X (binaryOp .Mult) (rI CMulA fun i j => .int (i * j)) := opI fun _ _ _ _ _ _ _ hc q => mul_int q (hc.elim CMulW.ok CMul.ok)
theorem mulOk_ok {i j : Int} (h : mulOk i j = true) : CMulA i j := by
  unfold mulOk at h
  simp only [Bool.or_eq_true, decide_eq_true_eq] at h
  rcases h with (h | h) | h
  · exact .inr (.inl ⟨by omega, by omega⟩)
  · exact .inr (.inr ⟨by omega, by omega⟩)
  · exact .inl h
def rMulA (K : PySem.W.Frag) : R2 := fun x y H Q => (rI CMulA fun i j => .int (i * j)) x y H Q ∨ rRepSX x y H Q ∨ rRepTZ K x y H Q ∨ rRepR x y H Q
theorem op_mulA {X : Cx} : OpR X (binaryOp .Mult) (rMulA X.K) := op_mulB.or (op_repSX.or (op_repTZ.or op_repR))
theorem om_mul {md : Bool} : OpM K F T (lk2 (rMulA K)) (mulM md) := fun W σ m h H Q x y u v hr rx ry p => by
  unfold mulM at p
  split at p
  · rename_i _ i j
    cases rx
    cases ry
    split at p
    · rename_i hl
      exact .inl ⟨i, j, rfl, rfl, mulOk_ok hl, .inl (p.v hr (.int _))⟩
    · exact p.elim
  · rename_i _ z k
    cases rx
    cases ry
    split at p
    · rename_i hl
      rw [Bool.and_eq_true, Bool.and_eq_true] at hl
      exact .inr (.inl ⟨z, k, rfl, rfl, of_decide_eq_true hl.1.1, of_decide_eq_true hl.1.2, of_decide_eq_true hl.2, .inl (p.v hr (.str _))⟩)
    · exact p.elim
  · rename_i _ xs k
    cases ry
    cases rx with
    | tup h1 r1 =>
      rename_i us a
      split at p
      · rename_i hl
        rw [Bool.and_eq_true, Bool.and_eq_true] at hl
        refine .inr (.inr (.inl ⟨a, k, us, rfl, rfl, SqT.of h1, of_decide_eq_true hl.1.1, of_decide_eq_true hl.1.2, by rw [r1.length]; exact of_decide_eq_true hl.2, fun e => .inl ?_, fun _ _ p' hp' => .inl (p.tup hr (r1.rep _) p' hp')⟩))
        rcases e with e | e
        · have : xs = [] := List.eq_nil_of_length_eq_zero (by rw [← r1.length, e]; rfl)
          subst this
          have e0 : (List.replicate k.toNat ([] : List MV)).flatten = [] := List.flatten_eq_nil_iff.mpr fun l hl => (List.mem_replicate.mp hl).2
          rw [e0] at p
          exact p.v hr (.tup h1 r1)
        · subst e
          rw [show (List.replicate (Int.toNat 1) xs).flatten = xs from List.append_nil xs] at p
          exact p.v hr (.tup h1 r1)
      · exact p.elim
  · rename_i _ _ k _ _ _
    cases ry
    split at p
    · rename_i xs e1
      split at p
      · rename_i hl
        rw [Bool.and_eq_true, Bool.and_eq_true] at hl
        obtain ⟨a, us, rfl, a1, a2⟩ := lstM_rd hr rx e1
        exact .inr (.inr (.inr ⟨_, k, us, rfl, rfl, a1, of_decide_eq_true hl.1.1, of_decide_eq_true hl.1.2, by rw [a2.length]; exact lim_line (of_decide_eq_true hl.2), p.mk hr (a2.rep _)⟩))
      · exact p.elim
    · exact p.elim
  · exact p.elim
end
end M

set_option Elab.async false
set_option linter.all false
set_option maxRecDepth 100000
set_option maxHeartbeats 4000000
/-! places, slices, dicts, in -/
namespace M
open PySem PySem.Spec PyProof.Rows L2 DL
section
variable {K : PySem.W.Frag} {F : Flds} {H : Hp} {m : Nat → Addr} {n : Nat}
theorem rvs_atI {xs : List MV} {vs : List V} {i : Int} {x : MV} (r : RVs K F H m n xs vs) (e : atI xs i = some x) : ∃ v, atI vs i = some v ∧ RV K F H m n x v := by
  unfold atI at e
  obtain ⟨j, e1, e2⟩ := Option.bind_eq_some_iff.mp e
  obtain ⟨v, e3, e4⟩ := r.get e2
  refine ⟨v, ?_, e4⟩
  unfold atI
  rw [r.length]
  exact Option.bind_eq_some_iff.mpr ⟨j, e1, e3⟩
end
/-! ### dicts of the machine -/
def kM : Key → MV
  | .inl i => .int i
  | .inr s => .str s
def keyM : MV → Option Key
  | .int i => some (.inl i)
  | .str s => some (.inr s)
  | _ => none
def keysM : List MV → Option (List Key)
  | [] => some []
  | x :: xs => match keyM x, keysM xs with
    | some k, some ks => some (k :: ks)
    | _, _ => none
section
variable {κ : Type} [DecidableEq κ]
def mval (kvs : List (κ × MV)) (k : κ) : Option MV := (kvs.find? fun kv => decide (kv.1 = k)).map (·.2)
def mputK (kvs : List (κ × MV)) (k : κ) (v : MV) : List (κ × MV) :=
  if kvs.any (fun kv => decide (kv.1 = k)) then kvs.map fun kv => if kv.1 = k then (kv.1, v) else kv else kvs ++ [(k, v)]
abbrev KRV (K : PySem.W.Frag) (F : Flds) (H : Hp) (m : Nat → Addr) (n : Nat) : List (κ × MV) → List (κ × V) → Prop := Paired fun (p : κ × MV) (q : κ × V) => p.1 = q.1 ∧ RV K F H m n p.2 q.2
variable {K : PySem.W.Frag} {F : Flds} {H : Hp} {m : Nat → Addr} {n : Nat}
theorem krv_val {kvs : List (κ × MV)} {kws : List (κ × V)} (r : KRV K F H m n kvs kws) (k : κ) : (mval kvs k = none ∧ valV kws k = none) ∨ ∃ x v, mval kvs k = some x ∧ valV kws k = some v ∧ RV K F H m n x v := by
  induction r with
  | nil => exact .inl ⟨rfl, rfl⟩
  | cons a t ih =>
    rename_i p q ps qs
    obtain ⟨e1, e2⟩ := a
    by_cases e : p.1 = k
    · refine .inr ⟨p.2, q.2, ?_, valV_pos (e1 ▸ e), e2⟩
      unfold mval
      rw [List.find?_cons_of_pos (by simpa using e)]
      rfl
    · have h1 : mval (p :: ps) k = mval ps k := by
        unfold mval
        rw [List.find?_cons_of_neg (by simpa using e)]
      rw [h1, valV_neg (fun z => e (e1.trans z))]
      exact ih
theorem krv_any {kvs : List (κ × MV)} {kws : List (κ × V)} (r : KRV K F H m n kvs kws) (k : κ) : (kws.any fun kv => decide (kv.1 = k)) = kvs.any fun kv => decide (kv.1 = k) := by
  induction r with
  | nil => rfl
  | cons a t ih =>
    rw [List.any_cons, List.any_cons, ih, a.1]
theorem krv_len {kvs : List (κ × MV)} {kws : List (κ × V)} (r : KRV K F H m n kvs kws) : kws.length = kvs.length := by
  induction r with
  | nil => rfl
  | cons a t ih => exact congrArg Nat.succ ih
theorem krv_app {kvs ls : List (κ × MV)} {kws lws : List (κ × V)} (r : KRV K F H m n kvs kws) (s : KRV K F H m n ls lws) : KRV K F H m n (kvs ++ ls) (kws ++ lws) := by
  induction r with
  | nil => exact s
  | cons a t ih => exact .cons a ih
theorem krv_repl {kvs : List (κ × MV)} {kws : List (κ × V)} (r : KRV K F H m n kvs kws) (k : κ) {x : MV} {v : V} (rv : RV K F H m n x v) : KRV K F H m n (kvs.map fun kv => if kv.1 = k then (kv.1, x) else kv) (kws.map fun kv => if kv.1 = k then (kv.1, v) else kv) := by
  induction r with
  | nil => exact .nil
  | cons a t ih =>
    rename_i p q ps qs
    refine .cons ?_ ih
    obtain ⟨e1, e2⟩ := a
    by_cases e : p.1 = k
    · dsimp only
      rw [if_pos e, if_pos (e1 ▸ e)]
      exact ⟨e1, rv⟩
    · dsimp only
      rw [if_neg e, if_neg (fun z => e (e1.trans z))]
      exact ⟨e1, e2⟩
theorem krv_put {kvs : List (κ × MV)} {kws : List (κ × V)} (r : KRV K F H m n kvs kws) (k : κ) {x : MV} {v : V} (rv : RV K F H m n x v) : KRV K F H m n (mputK kvs k x) (putK kws k v) := by
  unfold mputK putK
  rw [krv_any r k]
  split
  · exact krv_repl r k rv
  · exact krv_app r (.cons ⟨rfl, rv⟩ .nil)
end
section
variable {K : PySem.W.Frag} {F : Flds} {T : List (Addr × Str)} {O : Ot} {H : Hp} {m : Nat → Addr} {n : Nat} {h : MH}
theorem keyM_ok {x : MV} {u : V} {k : Key} (r : RV K F H m n x u) (e : keyM x = some k) : u = kV k := by
  cases r <;> first | (cases e; rfl) | cases e
theorem keysM_ok : ∀ {xs : List MV} {us : List V} {ks : List Key}, RVs K F H m n xs us → keysM xs = some ks → us = ks.map kV
  | _, _, _, .nil, e => by
    cases e
    rfl
  | _, _, _, .cons a b, e => by
    unfold keysM at e
    split at e
    · rename_i k ks e1 e2
      cases e
      rw [keyM_ok a e1, keysM_ok b e2]
      rfl
    · cases e
end
theorem krv_zip {κ : Type} {K : PySem.W.Frag} {F : Flds} {H : Hp} {m : Nat → Addr} {n : Nat} : ∀ {ks : List κ} {xs : List MV} {kws : List (κ × V)}, kws.map (·.1) = ks → RVs K F H m n xs (kws.map (·.2)) → Paired (fun (p : κ × MV) (q : κ × V) => p.1 = q.1 ∧ RV K F H m n p.2 q.2) (ks.zip xs) kws
  | [], xs, [], _, _ => .nil
  | [], _, _ :: _, e, _ => by cases e
  | _ :: _, _, [], e, _ => by cases e
  | k :: ks, xs, (k', v) :: kws, e, r => by
    have e1 : k' = k := (List.cons.inj e).1
    subst e1
    cases r with
    | cons a b => exact .cons ⟨rfl, a⟩ (krv_zip (List.cons.inj e).2 b)
/-- what d[y] is, where d is a dict: nothing where it is none; none where the key is not there -/
def dgetM (h : MH) (d y : MV) : Option (Option MV) := match d with
  | .dic ks xs => match keyM y with
    | some k => some (mval (ks.zip xs) k)
    | none => none
  | .dicT ks xs => match y with
    | .tup ys => match keysM ys with
      | some k => some (mval (ks.zip xs) k)
      | none => none
    | _ => none
  | .ref i => match h[i]? with
    | some (.dic []) => match keyM y with
      | some _ => some none
      | none => match y with
        | .tup ys => match keysM ys with
          | some _ => some none
          | none => none
        | _ => none
    | some (.dic kvs) => match keyM y with
      | some k => some (mval kvs k)
      | none => none
    | some (.dicT kvs) => match y with
      | .tup ys => match keysM ys with
        | some k => some (mval kvs k)
        | none => none
      | _ => none
    | _ => none
  | _ => none
/-- an empty dict, of either kind -/
def Emp (H : Hp) (a : Addr) : Prop := H a = some (.dK []) ∨ H a = some (.dT [])
/-- what may be a key -/
def KeyL (H : Hp) (y : V) : Prop := (∃ k, y = kV k) ∨ ∃ (ks : List Key) (b : Addr), y = .ref b ∧ H b = some (.tup (ks.map kV))
def DG (H : Hp) (a : Addr) (y : V) (o : Option V) : Prop := DGet H a y o ∨ (o = none ∧ Emp H a ∧ KeyL H y)
section
variable {X : Cx} {pins : List (Addr × Obj)} {σ : L2.St} {H : Hp} {s : Shared}
theorem emp_obj {P : Program} {w : World} {H' : Hp} {h : Heap} {a : Addr} (e : ObjOk P w H h a (.dK []) ∨ ObjOk P w H h a (.dT [])) : ObjOk P w H' h a (.dK []) ∧ ObjOk P w H' h a (.dT []) := by
  have z : (a == sysModules) = false ∧ ∃ o ep, h.get? a = some o ∧ o.ExactDict ∧ o.data = .dict #[] ep := by
    rcases e with ⟨_, hs, vs, r, o, es, ep, e1, e2, e3, e4, e5, _⟩ | ⟨_, hs, xs, r, o, es, ep, e1, e2, e3, e4, _⟩
    · cases r
      refine ⟨hs, o, ep, e1, e2, ?_⟩
      have : es = #[] := by
        have q : es.toList = [] := by
          generalize es.toList = l at e5
          cases e5
          rfl
        exact Array.toList_eq_nil_iff.mp q
      exact this ▸ e3
    · cases r
      have : es = #[] := by
        rw [List.map_nil] at e4
        exact Array.toList_eq_nil_iff.mp e4
      exact ⟨hs, o, ep, e1, e2, this ▸ e3⟩
  obtain ⟨hs, o, ep, e1, e2, e3⟩ := z
  exact ⟨⟨Nat.zero_le _, hs, [], .nil, o, #[], ep, e1, e2, e3, fun e he => absurd he (by simp), .nil, List.nodup_nil⟩, ⟨Nat.zero_le _, hs, [], .nil, o, #[], ep, e1, e2, e3, rfl, List.nodup_nil⟩⟩
theorem emp_conv {a : Addr} {u : HO} (I : Inv X pins σ H s) (e : Emp H a) (hu : u = .dK [] ∨ u = .dT []) : Inv X pins σ (upd H a u) s := by
  have mu : Mut (H a) := by
    rcases e with e | e <;> rw [e] <;> exact trivial
  have ob : ObjOk X.prog X.w H s.heap a (.dK []) ∨ ObjOk X.prog X.w H s.heap a (.dT []) := by
    rcases e with e | e
    · exact .inl (I.hok a _ e)
    · exact .inr (I.hok a _ e)
  obtain ⟨o1, o2⟩ := emp_obj (H' := upd H a u) ob
  have lt : ∃ q, s.heap.get? a = some q := by
    obtain ⟨_, _, _, _, q, _, _, z, _⟩ := o1
    exact ⟨q, z⟩
  have I2 := I.write (x := a) (e := a) (o := u) (h' := s.heap) (t' := s.toks) mu (.inl rfl) (fun _ _ _ q => q) lt (by rcases hu with rfl | rfl <;> first | exact o1 | exact o2)
  exact I2
theorem upd_back {a : Addr} {u z : HO} (e : H a = some z) : upd (upd H a u) a z = H := by
  rw [upd_upd]
  funext b
  by_cases hb : b = a
  · subst hb
    rw [upd_same, e]
  · rw [upd_ne hb]
theorem emp_back {a : Addr} {u : HO} (I : Inv X pins σ (upd H a u) s) (hu : u = .dK [] ∨ u = .dT []) (e : Emp H a) : Inv X pins σ H s := by
  have e2 : Emp (upd H a u) a := by
    rcases hu with rfl | rfl
    · exact .inl upd_same
    · exact .inr upd_same
  rcases e with e | e
  · have q := emp_conv I e2 (.inl rfl)
    rwa [upd_back e] at q
  · have q := emp_conv I e2 (.inr rfl)
    rwa [upd_back e] at q
/-- an empty dict holds no key -/
theorem emp_get {a : Addr} {y : V} (e : Emp H a) (k : KeyL H y) : ∃ u, (u = .dK [] ∨ u = .dT []) ∧ DGet (upd H a u) a y none := by
  rcases k with ⟨k, rfl⟩ | ⟨ks, b, rfl, hb⟩
  · exact ⟨_, .inl rfl, DGet.k (k := k) upd_same⟩
  · refine ⟨_, .inr rfl, DGet.t (k := ks) upd_same ?_⟩
    rw [upd_ne]
    · exact hb
    · rintro rfl
      rcases e with e | e <;> rw [hb] at e <;> cases e
variable {A : Around} {E : Value → Shared → Prop} {a : Addr} {y : V} {o : Option V} {u : Value}
theorem dg_in {Q : Value → Shared → Prop} (hu : A.units + 1 < cLine) (I : Inv X pins σ H s) (g : DG H a y o) (ry : RelV y u) (h : ∀ s', Inv X pins σ H s' → Q (.bool o.isSome) s') : wpAny (model X.prog X.w) A (compareOp .In u (.ref a)) Q E s := by
  rcases g with g | ⟨rfl, e, k⟩
  · exact d_in hu I g ry h
  · obtain ⟨z, hz, g⟩ := emp_get e k
    exact d_in hu (emp_conv I e hz) g ry fun s' I' => h s' (emp_back I' hz e)
theorem dg_notIn {Q : Value → Shared → Prop} (hu : A.units + 1 < cLine) (I : Inv X pins σ H s) (g : DG H a y o) (ry : RelV y u) (h : ∀ s', Inv X pins σ H s' → Q (.bool (!o.isSome)) s') : wpAny (model X.prog X.w) A (compareOp .NotIn u (.ref a)) Q E s := by
  rcases g with g | ⟨rfl, e, k⟩
  · exact d_notIn hu I g ry h
  · obtain ⟨z, hz, g⟩ := emp_get e k
    exact d_notIn hu (emp_conv I e hz) g ry fun s' I' => h s' (emp_back I' hz e)
end
section
variable {K : PySem.W.Frag} {F : Flds} {T : List (Addr × Str)} {O : Ot} {H : Hp} {m : Nat → Addr} {h : MH}
theorem dgetM_ok {d y : MV} {u v : V} {o : Option MV} (hr : HR K F T m h H) (rd : RV K F H m h.length d u) (ry : RV K F H m h.length y v) (e : dgetM h d y = some o) :
    ∃ a ov, u = .ref a ∧ DG H a v ov ∧ ((o = none ∧ ov = none) ∨ ∃ x w, o = some x ∧ ov = some w ∧ RV K F H m h.length x w ∧ DGet H a v ov) := by
  cases rd with
  | @dic ks xs kws a o2 h1 h2 h3 =>
    unfold dgetM at e
    dsimp only at e
    split at e
    · rename_i k ek
      cases e
      have g : DGet H a v (valV kws k) := .inl ⟨kws, k, .inr ⟨_, h1⟩, keyM_ok ry ek, rfl⟩
      refine ⟨_, valV kws k, rfl, .inl g, ?_⟩
      rcases krv_val (krv_zip h2 h3) k with z | ⟨x, w, z1, z2, z3⟩
      · exact .inl z
      · exact .inr ⟨x, w, z1, z2, z3, g⟩
    · cases e
  | @dicT ks xs kws a o2 h1 h2 h3 =>
    unfold dgetM at e
    dsimp only at e
    split at e
    · rename_i ys
      split at e
      · rename_i k ek
        cases e
        cases ry with
        | tup g1 g2 =>
          rename_i ts b
          have hb : H b = some (.tup (k.map kV)) := by
            rw [← keysM_ok g2 ek]
            exact g1
          have g : DGet H a (.ref b) (valV kws k) := .inr ⟨kws, k, b, .inr ⟨_, h1⟩, rfl, hb, rfl⟩
          refine ⟨_, valV kws k, rfl, .inl g, ?_⟩
          rcases krv_val (krv_zip h2 h3) k with z | ⟨x, w, z1, z2, z3⟩
          · exact .inl z
          · exact .inr ⟨x, w, z1, z2, z3, g⟩
      · cases e
    · cases e
  | ref hi =>
    rename_i i
    unfold dgetM at e
    dsimp only at e
    split at e
    · rename_i q
      have em : Emp H (m i) := by
        rcases hr.obj i _ q with ⟨kws, q1, q2⟩ | ⟨_, q1⟩
        · cases q2
          exact .inl q1
        · exact .inr q1
      split at e
      · rename_i k ek
        cases e
        exact ⟨_, none, rfl, .inr ⟨rfl, em, .inl ⟨k, keyM_ok ry ek⟩⟩, .inl ⟨rfl, rfl⟩⟩
      · split at e
        · rename_i ys _
          split at e
          · rename_i k ek
            cases e
            cases ry with
            | tup h1 h2 =>
              refine ⟨_, none, rfl, .inr ⟨rfl, em, .inr ⟨k, _, rfl, ?_⟩⟩, .inl ⟨rfl, rfl⟩⟩
              rw [← keysM_ok h2 ek]
              exact h1
          · cases e
        · cases e
    · rename_i kvs hne q
      split at e
      · rename_i k ek
        cases e
        rcases hr.obj i _ q with ⟨kws, q1, q2⟩ | ⟨q1, _⟩
        · have g : DGet H (m i) v (valV kws k) := .inl ⟨kws, k, .inl q1, keyM_ok ry ek, rfl⟩
          refine ⟨_, valV kws k, rfl, .inl g, ?_⟩
          rcases krv_val q2 k with z | ⟨x, w, z1, z2, z3⟩
          · exact .inl z
          · exact .inr ⟨x, w, z1, z2, z3, g⟩
        · exact absurd q1 hne
      · cases e
    · rename_i kvs q
      split at e
      · rename_i ys
        split at e
        · rename_i k ek
          cases e
          obtain ⟨kws, q1, q2⟩ := hr.obj i _ q
          cases ry with
          | tup h1 h2 =>
            rename_i ts b
            have hb : H b = some (.tup (k.map kV)) := by
              rw [← keysM_ok h2 ek]
              exact h1
            have g : DGet H (m i) (.ref b) (valV kws k) := .inr ⟨kws, k, b, .inl q1, rfl, hb, rfl⟩
            refine ⟨_, valV kws k, rfl, .inl g, ?_⟩
            rcases krv_val q2 k with z | ⟨x, w, z1, z2, z3⟩
            · exact .inl z
            · exact .inr ⟨x, w, z1, z2, z3, g⟩
        · cases e
      · cases e
    · cases e
  | _ => cases e
end
/-! ### x[i] -/
def ixM (x y : MV) (h : MH) : R MV := match dgetM h x y with
  | some (some v) => .ok v h
  | some none => .bad
  | none => match x, y with
    | .str z, .int i => if z.length ≤ LIM then match atI z.cps.toList i with
        | some c => .ok (.str ⟨#[c]⟩) h
        | none => .bad
      else .bad
    | x, .int i => match seqM h x with
      | some xs => match atI xs i with
        | some v => .ok v h
        | none => .bad
      | none => .bad
    | _, _ => .bad
def rDGet : R2 := fun x y H Q => ∃ a v, x = .ref a ∧ DGet H a y (some v) ∧ Q v H
theorem ix_dict {X : Cx} (hu : X.A.units + 1 < cLine) : IxR X rDGet := by
  intro value slice pins s σ H x y v u Q I rx ry q hs
  obtain ⟨a, w, rfl, g, q⟩ := q
  obtain rfl : v = Value.ref a := rx
  exact tail_any (ops := [.ref a, u]) (dict_typeIs I g) PySem.F.slot_dict_getitem.lookup (d_getItem hu I g ry fun w' s3 I3 rw' => ⟨w, H, I3, rw', q⟩) hs
def rIxA (K : PySem.W.Frag) : R2 := fun x y H Q => rDGet x y H Q ∨ rIx K x y H Q
theorem ix_any {X : Cx} (hu : X.A.units + 1 < cLine) : IxR X (rIxA X.K) := (ix_dict hu).or ix_seq
section
variable {K : PySem.W.Frag} {F : Flds} {T : List (Addr × Str)} {O : Ot}
theorem om_ix : OpM K F T (rIxA K) ixM := fun W σ m h H Q x y u v hr rx ry p => by
  unfold ixM at p
  split at p
  · rename_i w e
    obtain ⟨a, ov, e1, g0, z⟩ := dgetM_ok hr rx ry e
    rcases z with ⟨z, _⟩ | ⟨x', w', z1, z2, z3, g⟩
    · cases z
    · cases z1
      rw [z2] at g
      exact .inl ⟨a, w', e1, g, p.v hr z3⟩
  · exact p.elim
  · split at p
    · rename_i z i _
      cases rx
      cases ry
      split at p
      · rename_i hl
        split at p
        · rename_i c ec
          exact .inr (.inr (.inr ⟨z, i, c, rfl, rfl, lim_line hl, ec, p.v hr (.str _)⟩))
        · exact p.elim
      · exact p.elim
    · rename_i i _ _
      cases ry
      split at p
      · rename_i xs es
        split at p
        · rename_i w ew
          obtain ⟨a, vs, e1, e2, e3⟩ := seqM_ok hr rx es
          obtain ⟨w', f1, f2⟩ := rvs_atI e3 ew
          rcases e2 with e2 | e2
          · exact .inr (.inl ⟨a, vs, i, w', e1, rfl, e2, f1, p.v hr f2⟩)
          · exact .inr (.inr (.inl ⟨a, vs, i, w', e1, rfl, e2, f1, p.v hr f2⟩))
        · exact p.elim
      · exact p.elim
    · exact p.elim
end
/-! ### x[lo:hi] -/
def cutM (xs : List MV) (lo hi : Option Int) : List MV := (xs.drop (HT.sIx xs.length 0 lo)).take (HT.sIx xs.length xs.length hi - HT.sIx xs.length 0 lo)
def slM (md : Bool) (x : MV) (lo hi : Option Int) (h : MH) : R MV := match x with
  | .str z => if z.length ≤ LIM then .ok (.str (cutS z lo hi)) h else .bad
  | .tup xs => .ok (.tup (cutM xs lo hi)) h
  | .scr xs => mkL md (cutM xs lo hi) h
  | x => match lstM h x with
    | some xs => mkL md (cutM xs lo hi) h
    | none => .bad
def rSlAll (K : PySem.W.Frag) : V → Option Int → Option Int → Hp → VK → Prop := fun x lo hi H Q => rSlL K x lo hi H Q ∨ rSlA K x lo hi H Q ∨ rSlS x lo hi H Q
theorem sl_all {X : Cx} : SlR X (rSlAll X.K) := sl_list.or (sl_tupA.or sl_str)
section
variable {K : PySem.W.Frag} {F : Flds} {T : List (Addr × Str)} {O : Ot}
theorem rvs_cut {H : Hp} {m : Nat → Addr} {n : Nat} {xs : List MV} {vs : List V} (r : RVs K F H m n xs vs) (lo hi : Option Int) : RVs K F H m n (cutM xs lo hi) (cutV vs lo hi) := by
  unfold cutM cutV
  rw [r.length]
  exact (r.drop _).take _
theorem sl_ok {W : WX} {σ : L2.St} {m : Nat → Addr} {h : MH} {H : Hp} {Q : VK} {x : MV} {u : V} {lo hi : Option Int} {md : Bool} (hr : HR K F T m h H) (rx : RV K F H m h.length x u) (p : Po K F T (rlE K F) W m h.length σ H Q (slM md x lo hi h)) : rSlAll K u lo hi H (lkQ Q) := by
  unfold slM at p
  split at p
  · cases rx
    split at p
    · rename_i hl
      exact .inr (.inr ⟨_, rfl, lim_line hl, .inl (p.v hr (.str _))⟩)
    · exact p.elim
  · cases rx with
    | tup h1 h2 =>
      rename_i xs vs a
      refine .inr (.inl ⟨a, vs, rfl, SqT.of h1, fun e => .inl ?_, fun _ q hq => .inl (p.tup hr (rvs_cut h2 lo hi) q hq)⟩)
      have e0 : cutM xs lo hi = xs := by
        unfold cutM
        rw [h2.length] at e
        rw [e.1, e.2, List.drop_zero, Nat.sub_zero, List.take_length]
      rw [e0] at p
      exact p.v hr (.tup h1 h2)
  · cases rx with
    | scr h1 h2 => exact .inl ⟨_, _, rfl, h1.imp .inr fun z => z, p.mk hr (rvs_cut h2 lo hi)⟩
  · split at p
    · rename_i xs e
      obtain ⟨a, vs, e1, e2, e3⟩ := lstM_ok hr rx e
      exact .inl ⟨a, vs, e1, e2, p.mk hr (rvs_cut e3 lo hi)⟩
    · exact p.elim
end
/-! ### in -/
def flatM : MV → Bool
  | .non => true | .bl _ => true | .int _ => true | .str _ => true
  | _ => false
end M

set_option Elab.async false
set_option linter.all false
set_option maxRecDepth 100000
set_option maxHeartbeats 4000000
/-! in, o[i] = v, list methods, built-ins, by values -/
namespace M
open PySem PySem.Spec PyProof.Rows L2 DL
/-! ### in -/
def toV : MV → V
  | .non => .non | .bl b => .bl b | .int i => .int i | .str s => .str s
  | _ => .non
section
variable {K : PySem.W.Frag} {F : Flds} {T : List (Addr × Str)} {O : Ot} {H : Hp} {m : Nat → Addr} {n : Nat} {h : MH}
theorem flat_ok {x : MV} {u : V} (f : flatM x = true) (r : RV K F H m n x u) : u = toV x ∧ flatV u = true := by
  cases r <;> first | exact ⟨rfl, rfl⟩ | cases f
theorem flats_ok : ∀ {xs : List MV} {us : List V}, xs.all flatM = true → RVs K F H m n xs us → us = xs.map toV ∧ us.all flatV = true
  | _, _, _, .nil => ⟨rfl, rfl⟩
  | _, _, f, .cons a b => by
    rw [List.all_cons, Bool.and_eq_true] at f
    obtain ⟨e1, f1⟩ := flat_ok f.1 a
    obtain ⟨e2, f2⟩ := flats_ok f.2 b
    refine ⟨by rw [List.map_cons, ← e1, ← e2], by rw [List.all_cons, f1, f2]; rfl⟩
end
/-- x in y: what it is -/
def inB (x y : MV) (h : MH) : Option Bool := match dgetM h y x with
  | some o => some o.isSome
  | none => match x, y with
    | .str a, .str b => some (!(Builtin.Str.occurrences b a 0 b.length 1).isEmpty)
    | x, y => match seqM h y with
      | none => none
      | some ys => if flatM x && ys.all flatM then some (inV (toV x) (ys.map toV)) else match lstM h y, toD h 64 x, toD h 64 y with
        | some _, some d, some (.list ds) => if SeqAt.shaped d && SeqAt.shaped (.list ds) then some (ds.any fun z => PyData.eqv z d) else none
        | _, _, _ => none
def inM (x y : MV) (h : MH) : R MV := match inB x y h with
  | some b => .ok (.bl b) h
  | none => .bad
def notInM (x y : MV) (h : MH) : R MV := match inB x y h with
  | some b => .ok (.bl (!b)) h
  | none => .bad
def rDIn (neg : Bool) : R2 := fun y x H Q => ∃ a o, x = .ref a ∧ DG H a y o ∧ Q (.bl (if neg then !o.isSome else o.isSome)) H
theorem op_dIn {X : Cx} (hu : X.A.units + 1 < cLine) : OpR X (compareOp .In) (rDIn false) := by
  intro pins s σ H x y v u Q I rx ry q
  obtain ⟨a, o, rfl, g, q⟩ := q
  obtain rfl : u = Value.ref a := ry
  exact dg_in hu I g rx fun s' I' => ⟨.bl o.isSome, H, I', rfl, q⟩
theorem op_dNotIn {X : Cx} (hu : X.A.units + 1 < cLine) : OpR X (compareOp .NotIn) (rDIn true) := by
  intro pins s σ H x y v u Q I rx ry q
  obtain ⟨a, o, rfl, g, q⟩ := q
  obtain rfl : u = Value.ref a := ry
  exact dg_notIn hu I g rx fun s' I' => ⟨.bl (!o.isSome), H, I', rfl, q⟩
def rInS (neg : Bool) : R2 := fun x y H Q => ∃ i j, x = .str i ∧ y = .str j ∧ Q (.bl (if neg then !(!(Builtin.Str.occurrences j i 0 j.length 1).isEmpty) else (!(Builtin.Str.occurrences j i 0 j.length 1).isEmpty))) H
def rInA (K : PySem.W.Frag) : R2 := fun x y H Q => rDIn false x y H Q ∨ rInS false x y H Q ∨ rIn K false x y H Q ∨ rInD K x y H Q
def rNotInA (K : PySem.W.Frag) : R2 := fun x y H Q => rDIn true x y H Q ∨ rInS true x y H Q ∨ rIn K true x y H Q ∨ rNotInD K x y H Q
theorem op_inA {X : Cx} (hu : X.A.units + 65 < cLine) : OpR X (compareOp .In) (rInA X.K) := (op_dIn (by omega)).or (OpR.or (r := rInS false) op_in_str (op_in_seq.or (op_inD hu)))
theorem op_notInA {X : Cx} (hu : X.A.units + 65 < cLine) : OpR X (compareOp .NotIn) (rNotInA X.K) := (op_dNotIn (by omega)).or (OpR.or (r := rInS true) op_notin_str (op_notIn_seq.or (op_notInD hu)))
section
variable {K : PySem.W.Frag} {F : Flds} {T : List (Addr × Str)} {O : Ot} {H : Hp} {m : Nat → Addr} {n : Nat} {h : MH}
theorem inB_ok {x y : MV} {u v : V} {b : Bool} (hr : HR K F T m h H) (rx : RV K F H m h.length x u) (ry : RV K F H m h.length y v) (e : inB x y h = some b) :
    (∃ a o, v = .ref a ∧ DG H a u o ∧ b = o.isSome) ∨ (∃ i j, u = .str i ∧ v = .str j ∧ b = (!(Builtin.Str.occurrences j i 0 j.length 1).isEmpty)) ∨
    (∃ p xs, v = .ref p ∧ (SqL K H p xs ∨ SqT K H p xs) ∧ flatV u = true ∧ xs.all flatV = true ∧ b = inV u xs) ∨
    (∃ d ds, Dp K H u d ∧ Dp K H v (.list ds) ∧ SeqAt.shaped d = true ∧ SeqAt.shaped (.list ds) = true ∧ b = (ds.any fun z => PyData.eqv z d)) := by
  unfold inB at e
  split at e
  · rename_i o eo
    cases e
    obtain ⟨a, ov, e1, g, z⟩ := dgetM_ok hr ry rx eo
    refine .inl ⟨a, ov, e1, g, ?_⟩
    rcases z with ⟨z1, z2⟩ | ⟨x', w', z1, z2, _⟩ <;> rw [z1, z2] <;> rfl
  · split at e
    · rename_i a b' _
      cases e
      cases rx
      cases ry
      exact .inr (.inl ⟨_, _, rfl, rfl, rfl⟩)
    · split at e
      · cases e
      · rename_i ys ey
        split at e
        · rename_i hf
          cases e
          rw [Bool.and_eq_true] at hf
          obtain ⟨a, vs, e1, e2, e3⟩ := seqM_ok hr ry ey
          obtain ⟨f1, f2⟩ := flat_ok hf.1 rx
          obtain ⟨f3, f4⟩ := flats_ok hf.2 e3
          exact .inr (.inr (.inl ⟨a, vs, e1, e2, f2, f4, by rw [f1, f3]⟩))
        · split at e
          · rename_i l d ds el ed eds
            split at e
            · rename_i hs
              cases e
              rw [Bool.and_eq_true] at hs
              exact .inr (.inr (.inr ⟨d, ds, toD_ok hr _ _ _ _ rx ed, toD_ok hr _ _ _ _ ry eds, hs.1, hs.2, rfl⟩))
            · cases e
          · cases e
theorem om_in : OpM K F T (rInA K) inM := fun W σ m h H Q x y u v hr rx ry p => by
  unfold inM at p
  split at p
  · rename_i b e
    have q := p.v hr (.bl b)
    rcases inB_ok hr rx ry e with ⟨a, o, e1, g, rfl⟩ | ⟨i, j, e1, e2, rfl⟩ | ⟨a, xs, e1, e2, e3, e4, rfl⟩ | ⟨d, ds, e1, e2, e3, e4, rfl⟩
    · exact .inl ⟨a, o, e1, g, q⟩
    · exact .inr (.inl ⟨i, j, e1, e2, q⟩)
    · exact .inr (.inr (.inl ⟨a, xs, e1, e2, e3, e4, q⟩))
    · exact .inr (.inr (.inr ⟨d, ds, e1, e2, e3, e4, q⟩))
  · exact p.elim
theorem om_notIn : OpM K F T (rNotInA K) notInM := fun W σ m h H Q x y u v hr rx ry p => by
  unfold notInM at p
  split at p
  · rename_i b e
    have q := p.v hr (.bl (!b))
    rcases inB_ok hr rx ry e with ⟨a, o, e1, g, rfl⟩ | ⟨i, j, e1, e2, rfl⟩ | ⟨a, xs, e1, e2, e3, e4, rfl⟩ | ⟨d, ds, e1, e2, e3, e4, rfl⟩
    · exact .inl ⟨a, o, e1, g, q⟩
    · exact .inr (.inl ⟨i, j, e1, e2, q⟩)
    · exact .inr (.inr (.inl ⟨a, xs, e1, e2, e3, e4, q⟩))
    · exact .inr (.inr (.inr ⟨d, ds, e1, e2, e3, e4, q⟩))
  · exact p.elim
end
/-! ### o[i] = v -/
def setM (o i v : MV) (h : MH) : Option MH := match o with
  | .ref n => match h[n]? with
    | some (.lst xs) => match i with
      | .int k => match ixN xs.length k with
        | some j => some (h.set n (.lst (xs.set j v)))
        | none => none
      | _ => none
    | some (.dic kvs) => if kvs.length < LIM then match keyM i with
        | some k => some (h.set n (.dic (mputK kvs k v)))
        | none => match kvs, i with
          | [], .tup ys => match keysM ys with
            | some k => some (h.set n (.dicT (mputK [] k v)))
            | none => none
          | _, _ => none
      else none
    | some (.dicT kvs) => if kvs.length < LIM then match i with
        | .tup ys => match keysM ys with
          | some k => some (h.set n (.dicT (mputK kvs k v)))
          | none => none
        | _ => none
      else none
    | _ => none
  | _ => none
def rDPut : TSet := fun o i v H Q => ∃ a H', o = .ref a ∧ DPut H a i v H' ∧ Q H'
def rDPutE : TSet := fun o i v H Q => ∃ a u H', o = .ref a ∧ Emp H a ∧ (u = .dK [] ∨ u = .dT []) ∧ DPut (upd H a u) a i v H' ∧ Q H'
theorem set_dict {X : Cx} (hu : X.A.units + 1 < cLine) : PSet X rDPut := by
  intro pins s σ H o i v ov iv u Q I ro ri rv q
  obtain ⟨a, H', rfl, g, q⟩ := q
  obtain rfl : ov = Value.ref a := ro
  exact d_setItem hu I g ri rv fun s' I' => ⟨H', I', q⟩
theorem set_dictE {X : Cx} (hu : X.A.units + 1 < cLine) : PSet X rDPutE := by
  intro pins s σ H o i v ov iv u Q I ro ri rv q
  obtain ⟨a, z, H', rfl, e, hz, g, q⟩ := q
  obtain rfl : ov = Value.ref a := ro
  exact d_setItem hu (emp_conv I e hz) g ri rv fun s' I' => ⟨H', I', q⟩
theorem PSet.or {X : Cx} {t t' : TSet} (a : PSet X t) (b : PSet X t') : PSet X (fun o i v H Q => t o i v H Q ∨ t' o i v H Q) := by
  intro pins s σ H o i v ov iv u Q I ro ri rv q
  rcases q with q | q
  · exact a pins s σ H o i v ov iv u Q I ro ri rv q
  · exact b pins s σ H o i v ov iv u Q I ro ri rv q
def rSetA : TSet := fun o i v H Q => rSetL o i v H Q ∨ rDPut o i v H Q ∨ rDPutE o i v H Q
theorem set_any {X : Cx} (hu : X.A.units + 1 < cLine) : PSet X rSetA := PSet.or set_list (PSet.or (set_dict hu) (set_dictE hu))
section
variable {K : PySem.W.Frag} {F : Flds} {T : List (Addr × Str)} {O : Ot} {H : Hp} {m : Nat → Addr} {h h' : MH}
/-- a dict is written -/
theorem HR.setD {κ : Type} [DecidableEq κ] (mk : List (κ × MV) → MO) (mkH : List (κ × V) → HO) {i : Nat} {kvs : List (κ × MV)} {kws : List (κ × V)} {u : HO} (hr : HR K F T m h H) (hi : i < h.length) (e : H (m i) = some u) (nu : ¬ Imm K F u) (n1 : ∀ ps, u ≠ .tbl ps)
    (ro : ∀ H' kvs kws, H' (m i) = some (mkH kws) → KRV K F H' m h.length kvs kws → RO K F H' m h.length (m i) (mk kvs)) (r : KRV K F H m h.length kvs kws) : Stp K F T m h.length H m (h.set i (mk kvs)) (upd H (m i) (mkH kws)) :=
  hr.put hi e nu n1 (ro _ _ _ upd_same (paired_imp (fun p q z => ⟨z.1, z.2.mo (Fix.set e nu) (fun _ _ => rfl) (Nat.le_refl _)⟩) r))
theorem setM_ok {o i v : MV} {u w z : V} {Q : Hp → Prop} (hr : HR K F T m h H) (ro : RV K F H m h.length o u) (ri : RV K F H m h.length i w) (rv : RV K F H m h.length v z) (e : setM o i v h = some h') (q : ∀ H', Stp K F T m h.length H m h' H' → Q H') : rSetA u w z H Q := by
  cases ro with
  | ref hi =>
    rename_i n
    unfold setM at e
    dsimp only at e
    split at e
    · rename_i xs ex
      split at e
      · rename_i k
        split at e
        · rename_i j ej
          cases e
          cases ri
          obtain ⟨vs, e1, e2⟩ := hr.lst ex
          refine .inl ⟨_, vs, k, j, rfl, rfl, e1, by rw [e2.length]; exact ej, q _ (hr.setL ex (e2.set rv j))⟩
        · cases e
      · cases e
    · rename_i kvs ex
      split at e
      · rename_i hl
        split at e
        · rename_i k ek
          cases e
          have hk := keyM_ok ri ek
          rcases hr.obj n _ ex with ⟨kws, e1, e2⟩ | ⟨e0, e1⟩
          · refine .inr (.inl ⟨_, _, rfl, .inl ⟨kws, k, e1, hk, by rw [krv_len e2]; exact lim_lt hl, rfl⟩, q _ ?_⟩)
            exact hr.setD .dic .dK hi e1 (fun z => z) (fun ps z => by cases z) (fun H' kvs kws a b => .inl ⟨kws, a, b⟩) (krv_put e2 k rv)
          · subst e0
            refine .inr (.inr ⟨_, .dK [], _, rfl, .inr e1, .inl rfl, .inl ⟨[], k, upd_same, hk, lim_lt (by decide), rfl⟩, q _ ?_⟩)
            rw [upd_upd]
            exact hr.setD .dic .dK hi e1 (fun z => z) (fun ps z => by cases z) (fun H' kvs kws a b => .inl ⟨kws, a, b⟩) (krv_put .nil k rv)
        · split at e
          · rename_i ys _
            split at e
            · rename_i k ek
              cases e
              cases ri with
              | tup h1 h2 =>
                rename_i ts b
                have hb : H b = some (.tup (k.map kV)) := by
                  rw [← keysM_ok h2 ek]
                  exact h1
                have em : Emp H (m n) := by
                  rcases hr.obj n _ ex with ⟨kws, q1, q2⟩ | ⟨_, q1⟩
                  · cases q2
                    exact .inl q1
                  · exact .inr q1
                obtain ⟨ue, hue, nue⟩ : ∃ ue, H (m n) = some ue ∧ ¬ Imm K F ue := by
                  rcases em with z | z
                  · exact ⟨_, z, fun z => z⟩
                  · exact ⟨_, z, fun z => z⟩
                have nb : b ≠ m n := by
                  rintro rfl
                  rw [hb] at hue
                  cases hue
                  exact nue trivial
                refine .inr (.inr ⟨_, .dT [], _, rfl, em, .inr rfl, .inr ⟨[], k, b, upd_same, rfl, by rw [upd_ne nb]; exact hb, lim_lt (by decide), rfl⟩, q _ ?_⟩)
                rw [upd_upd]
                exact hr.setD .dicT .dT hi hue nue (fun ps z => by
                  rcases em with y | y <;> rw [hue] at y <;> cases y <;> cases z) (fun H' kvs kws a b => ⟨kws, a, b⟩) (krv_put .nil k rv)
            · cases e
          · cases e
      · cases e
    · rename_i kvs ex
      split at e
      · rename_i hl
        split at e
        · rename_i ys
          split at e
          · rename_i k ek
            cases e
            obtain ⟨kws, e1, e2⟩ := hr.obj n _ ex
            cases ri with
            | tup h1 h2 =>
              rename_i ts b
              have hb : H b = some (.tup (k.map kV)) := by
                rw [← keysM_ok h2 ek]
                exact h1
              refine .inr (.inl ⟨_, _, rfl, .inr ⟨kws, k, b, e1, rfl, hb, by rw [krv_len e2]; exact lim_lt hl, rfl⟩, q _ ?_⟩)
              exact hr.setD .dicT .dT hi e1 (fun z => z) (fun ps z => by cases z) (fun H' kvs kws a b => ⟨kws, a, b⟩) (krv_put e2 k rv)
          · cases e
        · cases e
      · cases e
    · cases e
  | _ => cases e
end
end M

set_option Elab.async false
set_option linter.all false
set_option maxRecDepth 100000
set_option maxHeartbeats 4000000
/-! built-ins, by values -/
namespace M
open PySem PySem.Spec PyProof.Rows L2 DL
abbrev LF := List MV → MH → R MV
def lenM : LF
  | [.str z], h => if z.length ≤ LIM then .ok (.int z.length) h else .bad
  | [.tup xs], h => .ok (.int xs.length) h
  | [.lst xs], h => .ok (.int xs.length) h
  | [.dic ks _], h => .ok (.int ks.length) h
  | [.dicT ks _], h => .ok (.int ks.length) h
  | [.ref i], h => match h[i]? with
    | some (.lst xs) => .ok (.int xs.length) h
    | some (.dic xs) => .ok (.int xs.length) h
    | some (.dicT xs) => .ok (.int xs.length) h
    | _ => .bad
  | _, _ => .bad
def int1M : LF
  | [.int i], h => .ok (.int i) h
  | [.bl b], h => .ok (.int (if b then 1 else 0)) h
  | _, _ => .bad
def absM : LF
  | [.int i], h => .ok (.int (if i < 0 then -i else i)) h
  | _, _ => .bad
def max2M : LF
  | [.int i, .int j], h => .ok (.int (if j > i then j else i)) h
  | _, _ => .bad
def min2M : LF
  | [.int i, .int j], h => .ok (.int (if j < i then j else i)) h
  | _, _ => .bad
def listM (md : Bool) : LF
  | [x], h => match seqM h x with
    | some xs => mkL md xs h
    | none => match x with
      | .dic ks _ => mkL md (ks.map kM) h
      | .dicT ks _ => mkL md (ks.map fun k => .tup (k.map kM)) h
      | .ref i => match h[i]? with
        | some (.dic kvs) => mkL md (kvs.map fun p => kM p.1) h
        | some (.dicT kvs) => mkL md (kvs.map fun p => .tup (p.1.map kM)) h
        | _ => .bad
      | _ => .bad
  | _, _ => .bad
def tupM : LF
  | [x], h => match seqM h x with
    | some xs => .ok (.tup xs) h
    | none => .bad
  | _, _ => .bad
def blsM : List MV → Option (List Bool)
  | [] => some []
  | .bl b :: xs => (blsM xs).map (b :: ·)
  | _ => none
def intsM : List MV → Option (List Int)
  | [] => some []
  | .int b :: xs => (intsM xs).map (b :: ·)
  | _ => none
def allM : LF
  | [x], h => match lstM h x with
    | some xs => match blsM xs with
      | some bs => .ok (.bl (bs.all id)) h
      | none => .bad
    | none => .bad
  | _, _ => .bad
def anyM : LF
  | [x], h => match lstM h x with
    | some xs => match blsM xs with
      | some bs => .ok (.bl (bs.any id)) h
      | none => .bad
    | none => .bad
  | _, _ => .bad
def sumM : LF
  | [x], h => match lstM h x with
    | some xs => match intsM xs with
      | some ns => .ok (.int ns.sum) h
      | none => .bad
    | none => .bad
  | _, _ => .bad
def gcdM : LF
  | [.int i, .int j], h => .ok (.int ((Nat.gcd i.natAbs j.natAbs : Nat) : Int)) h
  | _, _ => .bad
def strM : LF
  | [.int i], h => if i.natAbs.log2 < 1920 then .ok (.str (toString i)) h else .bad
  | _, _ => .bad
def isRef : MV → Bool
  | .tup _ => true
  | .lst _ => true
  | .ref _ => true
  | _ => false
def reprM : LF
  | [x], h => match toD h 64 x with
    | some d => if isRef x && (d.showable && !d.hasDict && decide (d.depth ≤ 64) && decide (d.shown.length ≤ sizeLine)) then .ok (.str d.shown) h else .bad
    | _ => .bad
  | _, _ => .bad
section
variable {K : PySem.W.Frag} {F : Flds} {T : List (Addr × Str)} {O : Ot} {H : Hp} {m : Nat → Addr} {n : Nat} {h : MH}
theorem rvs1 {x : MV} {us : List V} (r : RVs K F H m n [x] us) : ∃ u, us = [u] ∧ RV K F H m n x u := by
  cases r with
  | cons a b =>
    cases b
    exact ⟨_, rfl, a⟩
theorem rvs2 {x y : MV} {us : List V} (r : RVs K F H m n [x, y] us) : ∃ u v, us = [u, v] ∧ RV K F H m n x u ∧ RV K F H m n y v := by
  cases r with
  | cons a b =>
    obtain ⟨v, e, c⟩ := rvs1 b
    subst e
    exact ⟨_, _, rfl, a, c⟩
theorem blsM_ok : ∀ {xs : List MV} {us : List V} {bs : List Bool}, RVs K F H m n xs us → blsM xs = some bs → us = bs.map V.bl
  | _, _, _, .nil, e => by
    cases e
    rfl
  | _, _, _, .cons a b, e => by
    cases a <;> first | cases e | skip
    unfold blsM at e
    obtain ⟨bs, e1, e2⟩ := Option.map_eq_some_iff.mp e
    subst e2
    rw [blsM_ok b e1]
    rfl
theorem intsM_ok : ∀ {xs : List MV} {us : List V} {bs : List Int}, RVs K F H m n xs us → intsM xs = some bs → us = bs.map V.int
  | _, _, _, .nil, e => by
    cases e
    rfl
  | _, _, _, .cons a b, e => by
    cases a <;> first | cases e | skip
    unfold intsM at e
    obtain ⟨bs, e1, e2⟩ := Option.map_eq_some_iff.mp e
    subst e2
    rw [intsM_ok b e1]
    rfl
def rLenTR : List V → Hp → VK → Prop := fun xs H Q => ∃ (p : Addr) (kvs : List (List Key × V)), xs = [.ref p] ∧ Rd H p (.dT kvs) ∧ Q (.int ((kvs.length : Nat) : Int)) H
theorem call_len_dTR {X : Cx} : CallR X (.builtin "len") rLenTR := by
  intro pins s σ H xs us Q I r h
  obtain ⟨p, kvs, rfl, hp, q⟩ := h
  obtain ⟨u, rfl, rx⟩ := vals1 r
  obtain rfl : u = .ref p := rx
  obtain ⟨z, hd, ys, rel, dd⟩ := dt_rd I.hok hp
  have hl : kvs.length = ys.length := Paired.length rel
  refine call_len_dictH hd dd (by rw [← hl]; have := sizeLine_eq; omega) ?_
  exact ⟨.int _, H, (I.tok _).tok _, ⟨_, by rw [hl]⟩, q⟩
def rLenA (K : PySem.W.Frag) : List V → Hp → VK → Prop := fun xs H Q => (∃ x n, xs = [x] ∧ LenV K x H n ∧ Q (.int n) H) ∨ (∃ (p : Addr) (kvs : List (Key × V)), xs = [.ref p] ∧ Rd H p (.dK kvs) ∧ Q (.int (kvs.length : Nat)) H) ∨ rLenTR xs H Q
theorem call_len_dK {X : Cx} : CallR X (.builtin "len") (fun xs H Q => ∃ (p : Addr) (kvs : List (Key × V)), xs = [.ref p] ∧ Rd H p (.dK kvs) ∧ Q (.int (kvs.length : Nat)) H) := by
  intro pins s σ H xs us Q I r h
  obtain ⟨p, kvs, rfl, e, q⟩ := h
  obtain ⟨u, rfl, ru⟩ := vals1 r
  obtain rfl : u = Value.ref p := ru
  exact d_len I e fun t s' I' => ⟨.int kvs.length, H, I', ⟨_, rfl⟩, q⟩
theorem call_lenA {X : Cx} : CallR X (.builtin "len") (rLenA X.K) := call_len.or (call_len_dK.or call_len_dTR)
theorem lm_len : LsM K F T (rLenA K) lenM := fun W σ m h H Q xs us hr rs p => by
  unfold lenM at p
  split at p
  · obtain ⟨u, rfl, ru⟩ := rvs1 rs
    cases ru
    split at p
    · rename_i hl
      exact .inl ⟨_, _, rfl, ⟨lim_line hl, rfl⟩, p.v hr (.int _)⟩
    · exact p.elim
  · obtain ⟨u, rfl, ru⟩ := rvs1 rs
    cases ru with
    | tup h1 h2 => exact .inl ⟨_, _, rfl, .inr ⟨_, SqT.of h1, rfl⟩, by rw [h2.length]; exact p.v hr (.int _)⟩
  · obtain ⟨u, rfl, ru⟩ := rvs1 rs
    cases ru with
    | lst h1 h2 => exact .inl ⟨_, _, rfl, .inl ⟨_, .inl (.inr ⟨_, h1⟩), rfl⟩, by rw [h2.length]; exact p.v hr (.int _)⟩
  · obtain ⟨u, rfl, ru⟩ := rvs1 rs
    cases ru with
    | dic h1 h2 h3 =>
      subst h2
      exact .inr (.inl ⟨_, _, rfl, .inr ⟨_, h1⟩, by rw [List.length_map] at p; exact p.v hr (.int _)⟩)
  · obtain ⟨u, rfl, ru⟩ := rvs1 rs
    cases ru with
    | dicT h1 h2 h3 =>
      subst h2
      exact .inr (.inr ⟨_, _, rfl, .inr ⟨_, h1⟩, by rw [List.length_map] at p; exact p.v hr (.int _)⟩)
  · rename_i i
    obtain ⟨u, rfl, ru⟩ := rvs1 rs
    cases ru
    split at p
    · rename_i xs e
      obtain ⟨vs, e1, e2⟩ := hr.obj i _ e
      exact .inl ⟨_, _, rfl, .inl ⟨_, SqL.of e1, rfl⟩, by rw [e2.length]; exact p.v hr (.int _)⟩
    · rename_i xs e
      rcases hr.obj i _ e with ⟨kws, e1, e2⟩ | ⟨e1, e2⟩
      · exact .inr (.inl ⟨_, kws, rfl, .inl e1, by rw [krv_len e2]; exact p.v hr (.int _)⟩)
      · subst e1
        exact .inr (.inr ⟨_, [], rfl, .inl e2, p.v hr (.int _)⟩)
    · rename_i xs e
      obtain ⟨kws, e1, e2⟩ := hr.obj i _ e
      exact .inr (.inr ⟨_, kws, rfl, .inl e1, by rw [krv_len e2]; exact p.v hr (.int _)⟩)
    · exact p.elim
  · exact p.elim
theorem lm_int1 : LsM K F T (fun xs H Q => (∃ i, xs = [.int i] ∧ Q (.int i) H) ∨ ∃ k, xs = [.bl k] ∧ Q (.int (if k then 1 else 0)) H) int1M := fun W σ m h H Q xs us hr rs p => by
  unfold int1M at p
  split at p
  · obtain ⟨u, rfl, ru⟩ := rvs1 rs
    cases ru
    exact .inl ⟨_, rfl, p.v hr (.int _)⟩
  · obtain ⟨u, rfl, ru⟩ := rvs1 rs
    cases ru
    exact .inr ⟨_, rfl, p.v hr (.int _)⟩
  · exact p.elim
theorem lm_abs : LsM K F T (fun xs H Q => ∃ i, xs = [.int i] ∧ Q (.int (if i < 0 then -i else i)) H) absM := fun W σ m h H Q xs us hr rs p => by
  unfold absM at p
  split at p
  · obtain ⟨u, rfl, ru⟩ := rvs1 rs
    cases ru
    exact ⟨_, rfl, p.v hr (.int _)⟩
  · exact p.elim
theorem lm_max2 : LsM K F T (fun xs H Q => ∃ i j, xs = [.int i, .int j] ∧ Q (.int (if j > i then j else i)) H) max2M := fun W σ m h H Q xs us hr rs p => by
  unfold max2M at p
  split at p
  · obtain ⟨u, v, rfl, ru, rv⟩ := rvs2 rs
    cases ru
    cases rv
    exact ⟨_, _, rfl, p.v hr (.int _)⟩
  · exact p.elim
theorem lm_min2 : LsM K F T (fun xs H Q => ∃ i j, xs = [.int i, .int j] ∧ Q (.int (if j < i then j else i)) H) min2M := fun W σ m h H Q xs us hr rs p => by
  unfold min2M at p
  split at p
  · obtain ⟨u, v, rfl, ru, rv⟩ := rvs2 rs
    cases ru
    cases rv
    exact ⟨_, _, rfl, p.v hr (.int _)⟩
  · exact p.elim
theorem lm_gcd : LsM K F T rGcd gcdM := fun W σ m h H Q xs us hr rs p => by
  unfold gcdM at p
  split at p
  · obtain ⟨u, v, rfl, ru, rv⟩ := rvs2 rs
    cases ru
    cases rv
    exact ⟨_, _, rfl, p.v hr (.int _)⟩
  · exact p.elim
theorem lm_str : LsM K F T (fun xs H Q => ∃ i, xs = [.int i] ∧ i.natAbs.log2 < 1920 ∧ Q (.str (toString i)) H) strM := fun W σ m h H Q xs us hr rs p => by
  unfold strM at p
  split at p
  · obtain ⟨u, rfl, ru⟩ := rvs1 rs
    cases ru
    split at p
    · rename_i hl
      exact ⟨_, rfl, hl, p.v hr (.str _)⟩
    · exact p.elim
  · exact p.elim
theorem lm_all : LsM K F T (rAll K) allM := fun W σ m h H Q xs us hr rs p => by
  unfold allM at p
  split at p
  · obtain ⟨u, rfl, ru⟩ := rvs1 rs
    split at p
    · rename_i xs ex
      split at p
      · rename_i bs eb
        obtain ⟨a, vs, rfl, e2, e3⟩ := lstM_ok hr ru ex
        exact ⟨a, bs, rfl, by rw [← blsM_ok e3 eb]; exact e2, p.v hr (.bl _)⟩
      · exact p.elim
    · exact p.elim
  · exact p.elim
theorem lm_any : LsM K F T (rAny K) anyM := fun W σ m h H Q xs us hr rs p => by
  unfold anyM at p
  split at p
  · obtain ⟨u, rfl, ru⟩ := rvs1 rs
    split at p
    · rename_i xs ex
      split at p
      · rename_i bs eb
        obtain ⟨a, vs, rfl, e2, e3⟩ := lstM_ok hr ru ex
        exact ⟨a, bs, rfl, by rw [← blsM_ok e3 eb]; exact e2, p.v hr (.bl _)⟩
      · exact p.elim
    · exact p.elim
  · exact p.elim
theorem lm_sum : LsM K F T (rSum K) sumM := fun W σ m h H Q xs us hr rs p => by
  unfold sumM at p
  split at p
  · obtain ⟨u, rfl, ru⟩ := rvs1 rs
    split at p
    · rename_i xs ex
      split at p
      · rename_i bs eb
        obtain ⟨a, vs, rfl, e2, e3⟩ := lstM_ok hr ru ex
        exact ⟨a, bs, rfl, by rw [← intsM_ok e3 eb]; exact e2, p.v hr (.int _)⟩
      · exact p.elim
    · exact p.elim
  · exact p.elim
def rReprA (K : PySem.W.Frag) : List V → Hp → VK → Prop := fun xs H Q => ∃ v d, xs = [v] ∧ Dp K H v d ∧ (∃ a, v = .ref a) ∧ d.showable = true ∧ d.hasDict = false ∧ d.depth ≤ 64 ∧ d.shown.length ≤ sizeLine ∧ Q (.str d.shown) H
theorem lm_repr : LsM K F T (rReprA K) reprM := fun W σ m h H Q xs us hr rs p => by
  unfold reprM at p
  split at p
  · obtain ⟨u, rfl, ru⟩ := rvs1 rs
    split at p
    · rename_i d ed
      split at p
      · rename_i hc
        rw [Bool.and_eq_true, Bool.and_eq_true, Bool.and_eq_true, Bool.and_eq_true] at hc
        refine ⟨u, d, rfl, toD_ok hr _ _ _ _ ru ed, ?_, hc.2.1.1.1, nb hc.2.1.1.2, of_decide_eq_true hc.2.1.2, of_decide_eq_true hc.2.2, p.v hr (.str _)⟩
        have hx := hc.1
        cases ru <;> first | exact ⟨_, rfl⟩ | cases hx
      · exact p.elim
    · exact p.elim
  · exact p.elim
/-! list, tuple -/
def rListQ (K : PySem.W.Frag) : List V → Hp → VK → Prop := fun xs H Q => ∃ p ys, xs = [.ref p] ∧ (SqL K H p ys ∨ SqT K H p ys) ∧ ∀ l, H l = none → Q (.ref l) (upd H l (.lst ys))
def rListDT : List V → Hp → VK → Prop := fun xs H Q => ∃ d kvs, xs = [V.ref d] ∧ Rd H d (.dT kvs) ∧ ∀ p bs, H p = none → IsKeys H kvs bs → Q (.ref p) (upd H p (.lst (bs.map V.ref)))
def rListDR : List V → Hp → VK → Prop := fun xs H Q => ∃ (a : Addr) (kvs : List (Key × V)), xs = [.ref a] ∧ Rd H a (.dK kvs) ∧ ∀ p, H p = none → Q (.ref p) (upd H p (.lst (kvs.map fun kv => kV kv.1)))
def rListA (K : PySem.W.Frag) : List V → Hp → VK → Prop := fun xs H Q => rListQ K xs H Q ∨ rListDR xs H Q ∨ rListDT xs H Q
theorem call_listA {X : Cx} (hc : X.calm = true) : CallR X (.type "list") (rListA X.K) := CallR.or (r := rListQ X.K) call_list_of (CallR.or (call_listD hc) (call_list_dT hc))
theorem rv_kM (k : Key) : RV K F H m n (kM k) (kV k) := by
  cases k
  · exact .int _
  · exact .str _
theorem rvs_kM : ∀ ks : List Key, RVs K F H m n (ks.map kM) (ks.map kV)
  | [] => .nil
  | k :: ks => .cons (rv_kM k) (rvs_kM ks)
theorem rvs_kM' : ∀ kws : List (Key × V), RVs K F H m n (kws.map (kM ∘ fun x => x.1)) (kws.map fun p => kV p.1)
  | [] => .nil
  | k :: ks => .cons (rv_kM k.1) (rvs_kM' ks)
theorem rvs_dK {kvs : List (Key × MV)} {kws : List (Key × V)} (r : KRV K F H m n kvs kws) : RVs K F H m n (kvs.map fun p => kM p.1) (kws.map fun p => kV p.1) := by
  induction r with
  | nil => exact .nil
  | cons a t ih =>
    refine .cons ?_ ih
    dsimp only
    rw [a.1]
    exact rv_kM _
theorem rvs_dT : ∀ {ks : List (List Key)} {kws : List (List Key × V)} {bs : List Addr}, kws.map (·.1) = ks → IsKeys H kws bs → RVs K F H m n (ks.map fun k => MV.tup (k.map kM)) (bs.map V.ref)
  | _, _, _, e, .nil => by
    subst e
    exact .nil
  | _, _, _, e, .cons b1 b2 => by
    subst e
    exact .cons (.tup b1 (rvs_kM _)) (rvs_dT rfl b2)
theorem krv_keys {κ : Type} {kvs : List (κ × MV)} {kws : List (κ × V)} (r : KRV K F H m n kvs kws) : kws.map (·.1) = kvs.map (·.1) := by
  induction r with
  | nil => rfl
  | cons a t ih =>
    rw [List.map_cons, List.map_cons, ih, a.1]
theorem krv_vals {κ : Type} {kvs : List (κ × MV)} {kws : List (κ × V)} (r : KRV K F H m n kvs kws) : RVs K F H m n (kvs.map (·.2)) (kws.map (·.2)) := by
  induction r with
  | nil => exact .nil
  | cons a t ih => exact .cons a.2 ih
abbrev lk1 (r : List V → Hp → VK → Prop) : List V → Hp → VK → Prop := fun xs H Q => r xs H (lkQ Q)
theorem CallR.lk {X : Cx} {f : Value} {r : List V → Hp → VK → Prop} (h : CallR X f r) : CallR X f (lk1 r) := fun pins s σ H xs us Q I rs w => thn (h pins s σ H xs us _ I rs w) fun _ _ q => EP.lk q
theorem lm_list {md : Bool} : LsM K F T (lk1 (rListA K)) (listM md) := fun W σ m h H Q xs us hr rs p => by
  unfold listM at p
  split at p
  · obtain ⟨u, rfl, ru⟩ := rvs1 rs
    split at p
    · rename_i xs ex
      obtain ⟨a, vs, rfl, e2, e3⟩ := seqM_ok hr ru ex
      exact .inl ⟨a, vs, rfl, e2, p.mk hr e3⟩
    · split at p
      · cases ru with
        | @dic ks xs kws a o h1 h2 h3 =>
          subst h2
          refine .inr (.inl ⟨_, kws, rfl, .inr ⟨_, h1⟩, p.mk hr ?_⟩)
          rw [List.map_map]
          exact rvs_kM' _
      · cases ru with
        | dicT h1 h2 h3 => exact .inr (.inr ⟨_, _, rfl, .inr ⟨_, h1⟩, fun q bs hq hb => p.mk hr (rvs_dT h2 hb) q hq⟩)
      · rename_i i _
        cases ru
        split at p
        · rename_i kvs e
          rcases hr.obj i _ e with ⟨kws, e1, e2⟩ | ⟨e1, e2⟩
          · exact .inr (.inl ⟨_, kws, rfl, .inl e1, p.mk hr (rvs_dK e2)⟩)
          · subst e1
            refine .inr (.inr ⟨_, [], rfl, .inl e2, fun q bs hq hb => ?_⟩)
            cases hb
            exact p.mk hr (xs := []) .nil q hq
        · rename_i kvs e
          obtain ⟨kws, e1, e2⟩ := hr.obj i _ e
          refine .inr (.inr ⟨_, kws, rfl, .inl e1, fun q bs hq hb => p.mk hr ?_ q hq⟩)
          have := rvs_dT (K := K) (F := F) (m := m) (n := h.length) (krv_keys e2) hb
          rwa [List.map_map] at this
        · exact p.elim
      · exact p.elim
  · exact p.elim
def rTupQ (K : PySem.W.Frag) : List V → Hp → VK → Prop := fun xs H Q => ∃ p ys, xs = [.ref p] ∧ ((SqL K H p ys ∧ ∀ l, H l = none → Q (.ref l) (upd H l (.tup ys))) ∨ (SqT K H p ys ∧ Q (.ref p) H))
theorem lm_tup : LsM K F T (rTupQ K) tupM := fun W σ m h H Q xs us hr rs p => by
  unfold tupM at p
  split at p
  · rename_i x h'
    obtain ⟨u, rfl, ru⟩ := rvs1 rs
    split at p
    · rename_i xs ex
      cases ru with
      | tup h1 h2 =>
        cases ex
        exact ⟨_, _, rfl, .inr ⟨SqT.of h1, p.v hr (.tup h1 h2)⟩⟩
      | lst h1 h2 =>
        cases ex
        exact ⟨_, _, rfl, .inl ⟨.inl (.inr ⟨_, h1⟩), p.tup hr h2⟩⟩
      | scr h1 h2 =>
        cases ex
        exact ⟨_, _, rfl, .inl ⟨h1.imp .inr fun z => z, p.tup hr h2⟩⟩
      | ref hi =>
        obtain ⟨a, vs, e1, e2, e3⟩ := lstM_ok hr (.ref hi) (x := .ref _) ex
        exact ⟨a, vs, by rw [e1], .inl ⟨e2, p.tup hr e3⟩⟩
      | _ => cases ex
    · exact p.elim
  · exact p.elim
end
end M

set_option Elab.async false
set_option linter.all false
set_option maxRecDepth 100000
set_option maxHeartbeats 4000000
/-! statements of the machine -/
namespace M
open PySem PySem.Spec PyProof.Rows L2 DL
section
variable (K : PySem.W.Frag) (F : Flds) (T : List (Addr × Str)) (O : Ot)
def PoS (W : WX) (D : Ends) (m : Nat → Addr) (n : Nat) (H : Hp) : RS → Prop
  | .next μ h' => ∀ m' H' σ', Stp K F T m n H m' h' H' → SR K F O H' m' h'.length μ σ' → D.nx σ' H'
  | .ret v h' => ∀ m' H' x, Stp K F T m n H m' h' H' → RV K F H' m' h'.length v x → D.rt x H'
  | .brk μ h' => ∀ m' H' σ', Stp K F T m n H m' h' H' → SR K F O H' m' h'.length μ σ' → D.bk σ' H'
  | .cnt μ h' => ∀ m' H' σ', Stp K F T m n H m' h' H' → SR K F O H' m' h'.length μ σ' → D.ct σ' H'
  | .exc C vs μ h' => ∀ m' H' d ws σ', Stp K F T m n H m' h' H' → SR K F O H' m' h'.length μ σ' → H' d = some (.xd ((F C).zip ws)) → RVs K F H' m' h'.length vs ws → W (.ref (He.ga K C)) (some d) σ' H'
  | .bad => False
def tS (W : WX) (f : SF) : TS := fun D σ H => ∃ (m : Nat → Addr) (h : MH) (μ : ME), SR K F O H m h.length μ σ ∧ HR K F T m h H ∧ PoS K F T O W D m h.length H (f μ h)
abbrev GF := MV → ME → MH → RS
abbrev GsF := List MV → ME → MH → RS
/-- a target -/
def tTg (W : WX) (g : GF) : TG := fun v σ H Q => ∃ (m : Nat → Addr) (h : MH) (μ : ME) (x : MV), SR K F O H m h.length μ σ ∧ HR K F T m h H ∧ RV K F H m h.length x v ∧ PoS K F T O W { nx := Q, rt := fun _ _ => False } m h.length H (g x μ h)
def tTgs (W : WX) (g : GsF) : TGs := fun vs σ H Q => ∃ (m : Nat → Addr) (h : MH) (μ : ME) (xs : List MV), SR K F O H m h.length μ σ ∧ HR K F T m h H ∧ RVs K F H m h.length xs vs ∧ PoS K F T O W { nx := Q, rt := fun _ _ => False } m h.length H (g xs μ h)
end
/-! ### words -/
def R.st {α : Type} (r : R α) (μ : ME) (k : α → MH → RS) : RS := match r with
  | .ok a h => k a h
  | .exc C vs h => .exc C vs μ h
  | .bad => .bad
def RS.then (r : RS) (k : ME → MH → RS) : RS := match r with
  | .next μ h => k μ h
  | r => r
/-- of a target: it goes on, or an error leaves -/
def RS.only : RS → RS
  | .next μ h => .next μ h
  | .exc C vs μ h => .exc C vs μ h
  | _ => .bad
def skipS : SF := fun μ h => .next μ h
def seqS (f g : SF) : SF := fun μ h => (f μ h).then g
def brkS : SF := fun μ h => .brk μ h
def cntS : SF := fun μ h => .cnt μ h
def exprS (f : EF) : SF := fun μ h => (f μ h).st μ fun _ h1 => .next μ h1
def retS (f : EF) : SF := fun μ h => (f μ h).st μ fun v h1 => .ret v h1
def retN : SF := fun _ h => .ret .non h
def ifS (c : TF) (f g : SF) : SF := fun μ h => (c μ h).st μ fun b h1 => if b then f μ h1 else g μ h1
def asgS (e : EF) (g : GF) : SF := fun μ h => (e μ h).st μ fun v h1 => (g v μ h1).only
def parS (n : Nat) (es : AF) (g : GsF) : SF := fun μ h => (es μ h).st μ fun vs h1 => if vs.length ≤ 1000 ∧ vs.length = n then (g vs μ h1).only else .bad
def nameG (i : Nat) : GF := fun v μ h => .next (μ.set i (some v)) h
def nilG : GsF := fun vs μ h => match vs with
  | [] => .next μ h
  | _ => .bad
def consG (g : GF) (k : GsF) : GsF := fun vs μ h => match vs with
  | v :: r => (g v μ h).then fun μ1 h1 => k r μ1 h1
  | [] => .bad
/-- a, b, .. = a tuple, a list -/
def tupG (n : Nat) (k : GsF) : GF := fun v μ h => match seqM h v with
  | some xs => if xs.length = n then k xs μ h else .bad
  | _ => .bad
/-- slots that are forgotten -/
def wipeM (μ : ME) : List Nat → ME
  | [] => μ
  | v :: vs => (wipeM μ vs).set v none
def afterS (is : List Nat) (f : SF) : SF := fun μ h => match f μ h with
  | .next μ1 h1 => .next (wipeM μ1 is) h1
  | r => r
def clrS (is : List Nat) (f : SF) : SF := fun μ h => f (wipeM μ is) h
/-- what stands in a slot may be written no more -/
def frzV (h : MH) : MV → Option (MV × MH)
  | .ref j => match h[j]? with
    | some (.lst xs) => some (.lst xs, h.set j .dead)
    | some (.dic (p :: kvs)) => some (.dic ((p :: kvs).map (·.1)) ((p :: kvs).map (·.2)), h.set j .dead)
    | some (.dicT kvs) => some (.dicT (kvs.map (·.1)) (kvs.map (·.2)), h.set j .dead)
    | _ => none
  | _ => none
/-- .. all the way in -/
def frzDs (f : MH → MV → Option (MV × MH)) : MH → List MV → Option (List MV × MH)
  | h, [] => some ([], h)
  | h, x :: xs => match f h x with
    | some (y, h1) => match frzDs f h1 xs with
      | some (ys, h2) => some (y :: ys, h2)
      | none => none
    | none => none
def frzD : Nat → MH → MV → Option (MV × MH)
  | 0, _, _ => none
  | n + 1, h, .ref j => match h[j]? with
    | some (.lst xs) => match frzDs (frzD n) h xs with
      | some (ys, h1) => match h1[j]? with
        | some (.lst _) => some (.lst ys, h1.set j .dead)
        | _ => none
      | none => none
    | _ => none
  | _ + 1, h, v => some (v, h)
def frzDS (i : Nat) (f : SF) : SF := fun μ h => match μ[i]? with
  | some (some v) => match frzD 9 h v with
    | some (w, h1) => f (μ.set i (some w)) h1
    | none => .bad
  | _ => .bad
/-- of a list: each of its items, all the way in -/
def frzCS (i : Nat) (f : SF) : SF := fun μ h => match μ[i]? with
  | some (some (.ref j)) => match h[j]? with
    | some (.lst xs) => match frzDs (frzD 9) h xs with
      | some (ys, h1) => match h1[j]? with
        | some (.lst _) => f μ (h1.set j (.lst ys))
        | _ => .bad
      | none => .bad
    | _ => .bad
  | _ => .bad
def frzS (i : Nat) (f : SF) : SF := fun μ h => match μ[i]? with
  | some (some v) => match frzV h v with
    | some (w, h1) => f (μ.set i (some w)) h1
    | none => .bad
  | _ => .bad
def subG (o i : EF) : GF := fun v μ h => (o μ h).st μ fun ov h1 => (i μ h1).st μ fun iv h2 => match setM ov iv v h2 with
  | some h3 => .next μ h3
  | none => .bad
section
variable {K : PySem.W.Frag} {F : Flds} {T : List (Addr × Str)} {O : Ot} {α β : Type} {rl : Rel α β} {W : WX} {D : Ends} {m m1 : Nat → Addr} {n : Nat} {h h1 : MH} {σ : L2.St} {H H1 : Hp} {μ : ME}
theorem PoS.st {r : RS} (s : Stp K F T m n H m1 h1 H1) (p : PoS K F T O W D m n H r) : PoS K F T O W D m1 h1.length H1 r := by
  cases r with
  | next μ h' => exact fun m' H' b s' q => p m' H' b (s.tr s') q
  | ret μ h' => exact fun m' H' b s' q => p m' H' b (s.tr s') q
  | brk μ h' => exact fun m' H' b s' q => p m' H' b (s.tr s') q
  | cnt μ h' => exact fun m' H' b s' q => p m' H' b (s.tr s') q
  | exc C vs μ h' => exact fun m' H' d ws σ' s' q r z => p m' H' d ws σ' (s.tr s') q r z
  | bad => exact p
/-- an expression first -/
theorem PoS.ex {f : ME → MH → R α} {k : α → MH → RS} {Q' : β → Hp → Prop} (s : SR K F O H m h.length μ σ) (r : HR K F T m h H) (p : PoS K F T O W D m h.length H ((f μ h).st μ k))
    (c : ∀ a b m1 h1 H1, SR K F O H1 m1 h1.length μ σ → HR K F T m1 h1 H1 → Stp K F T m h.length H m1 h1 H1 → rl H1 m1 h1.length a b → PoS K F T O W D m1 h1.length H1 (k a h1) → Q' b H1) : tG K F T O rl W f σ H Q' := by
  refine ⟨m, h, μ, s, r, ?_⟩
  generalize f μ h = x at p ⊢
  cases x with
  | ok a h' => exact fun m' H' b st q => c a b m' h' H' (s.st st) st.hr st q (PoS.st st p)
  | exc C vs h' => exact fun m' H' d ws st q z => p m' H' d ws σ st (s.st st) q z
  | bad => exact p
/-- a statement first -/
theorem PoS.sq {r : RS} {k : ME → MH → RS} {Q : L2.St → Hp → Prop} (p : PoS K F T O W D m n H (r.then k))
    (c : ∀ μ1 σ1 m1 h1 H1, SR K F O H1 m1 h1.length μ1 σ1 → HR K F T m1 h1 H1 → Stp K F T m n H m1 h1 H1 → PoS K F T O W D m1 h1.length H1 (k μ1 h1) → Q σ1 H1) : PoS K F T O W { D with nx := Q } m n H r := by
  cases r with
  | next μ h' => exact fun m' H' σ' st q => c μ σ' m' h' H' q st.hr st (PoS.st st p)
  | ret μ h' => exact p
  | brk μ h' => exact p
  | cnt μ h' => exact p
  | exc C vs μ h' => exact p
  | bad => exact p
theorem PoS.only {r : RS} {D' : Ends} (p : PoS K F T O W D m n H r.only) (e : ∀ σ H, D.nx σ H → D'.nx σ H) : PoS K F T O W D' m n H r := by
  cases r with
  | next μ h' => exact fun m' H' b s' q => e _ _ (p m' H' b s' q)
  | exc C vs μ h' => exact p
  | _ => exact p.elim
theorem PoS.ends {r : RS} {D' : Ends} (p : PoS K F T O W D m n H r) (h1 : ∀ σ H, D.nx σ H → D'.nx σ H) (h2 : ∀ v H, D.rt v H → D'.rt v H) (h3 : ∀ σ H, D.bk σ H → D'.bk σ H) (h4 : ∀ σ H, D.ct σ H → D'.ct σ H) : PoS K F T O W D' m n H r := by
  cases r with
  | next μ h' => exact fun m' H' b s' q => h1 _ _ (p m' H' b s' q)
  | ret μ h' => exact fun m' H' b s' q => h2 _ _ (p m' H' b s' q)
  | brk μ h' => exact fun m' H' b s' q => h3 _ _ (p m' H' b s' q)
  | cnt μ h' => exact fun m' H' b s' q => h4 _ _ (p m' H' b s' q)
  | exc C vs μ h' => exact p
  | bad => exact p
end
section
variable {X : Cx} {F : Flds} {T : List (Addr × Str)} {O : Ot} {W : WX} {e a b : Expr} {es : List Expr} {st : Stmt} {rest body : List Stmt} {f g : EF} {c1 : TF} {l : AF} {s1 s2 : SF} {pos : Pos}
theorem pss_nilM : PSs X [] (tS X.K F T O W skipS) := PSs.imp pss_nil fun D σ H ⟨m, h, μ, s, hr, p⟩ => p m H σ (Stp.refl hr) s
theorem pss_consM (h1 : PS X st (tS X.K F T O W s1)) (h2 : PSs X rest (tS X.K F T O W s2)) : PSs X (st :: rest) (tS X.K F T O W (seqS s1 s2)) :=
  PSs.imp (pss_cons h1 h2) fun D σ H ⟨m, h, μ, s, hr, p⟩ => ⟨m, h, μ, s, hr, PoS.sq p fun μ1 σ1 m1 h1 H1 s1 r1 st1 p1 => ⟨m1, h1, μ1, s1, r1, p1⟩⟩
theorem pss_oneM (h1 : PS X st (tS X.K F T O W s1)) : PSs X [st] (tS X.K F T O W s1) := pss_one h1
theorem ps_passM : PS X (.Pass pos) (tS X.K F T O W skipS) := PS.imp ps_pass fun D σ H ⟨m, h, μ, s, hr, p⟩ => p m H σ (Stp.refl hr) s
theorem ps_breakM : PS X (.Break pos) (tS X.K F T O W brkS) := PS.imp ps_break fun D σ H ⟨m, h, μ, s, hr, p⟩ => p m H σ (Stp.refl hr) s
theorem ps_contM : PS X (.Continue pos) (tS X.K F T O W cntS) := PS.imp ps_continue fun D σ H ⟨m, h, μ, s, hr, p⟩ => p m H σ (Stp.refl hr) s
theorem ps_exprM (he : PE X e (tE X.K F T O W f)) (hs : swapsWith e none pos.line X.env = pure false) : PS X (.Expr e pos) (tS X.K F T O W (exprS f)) :=
  PS.imp (ps_expr he hs) fun D σ H ⟨m, h, μ, s, hr, p⟩ => PoS.ex s hr p fun x u m1 h1 H1 s1 r1 st1 q1 p1 => p1 m1 H1 σ (Stp.refl r1) s1
theorem ps_retM (he : PE X e (tE X.K F T O W f)) : PS X (.Return (some e) pos) (tS X.K F T O W (retS f)) :=
  PS.imp (ps_ret he) fun D σ H ⟨m, h, μ, s, hr, p⟩ => PoS.ex s hr p fun x u m1 h1 H1 s1 r1 st1 q1 p1 => p1 m1 H1 u (Stp.refl r1) q1
theorem ps_retNM : PS X (.Return none pos) (tS X.K F T O W retN) := PS.imp ps_retN fun D σ H ⟨m, h, μ, s, hr, p⟩ => p m H .non (Stp.refl hr) .non
theorem ps_ifM {c : Expr} {sa sb : List Stmt} (hc : PT X c (tT X.K F T O W c1)) (ha : PSs X sa (tS X.K F T O W s1)) (hb : PSs X sb (tS X.K F T O W s2)) : PS X (.If c sa sb pos) (tS X.K F T O W (ifS c1 s1 s2)) :=
  PS.imp (ps_if hc ha hb) fun D σ H ⟨m, h, μ, s, hr, p⟩ => PoS.ex s hr p fun x u m1 h1 H1 s1 r1 st1 q1 p1 => by
    cases q1
    cases x with
    | true => exact ⟨m1, h1, μ, s1, r1, p1⟩
    | false => exact ⟨m1, h1, μ, s1, r1, p1⟩
/-! targets -/
theorem PG.imp {X : Cx} {e : Expr} {t t' : TG} (h : PG X e t) (i : ∀ v σ H Q, t' v σ H Q → t v σ H Q) : PG X e t' := ⟨fun pins s σ H v u Q I r w => h.run pins s σ H v u Q I r (i v σ H Q w)⟩
theorem PGs.imp {X : Cx} {e : List Expr} {t t' : TGs} (h : PGs X e t) (i : ∀ v σ H Q, t' v σ H Q → t v σ H Q) : PGs X e t' := ⟨fun pins s σ H v u Q I r w => h.run pins s σ H v u Q I r (i v σ H Q w)⟩
theorem pg_nameM {i : Nat} (h : PG X e (gName i)) : PG X e (tTg X.K F T O W (nameG i)) := PG.imp h fun v σ H Q ⟨m, h, μ, x, s, hr, rx, p⟩ => p m H _ (Stp.refl hr) (s.set rx i)
theorem pgs_nilM : PGs X [] (tTgs X.K F T O W nilG) := PGs.imp pgs_nil fun vs σ H Q ⟨m, h, μ, xs, s, hr, rx, p⟩ => by
  cases rx with
  | nil => exact ⟨rfl, p m H _ (Stp.refl hr) s⟩
  | cons a b => exact p.elim
theorem pgs_consM {k : GsF} {g : GF} (h1 : PG X e (tTg X.K F T O W g)) (h2 : PGs X es (tTgs X.K F T O W k)) (hs : (assignEach (e :: es) X.env).map (·.2) = assign e X.env :: (assignEach es X.env).map (·.2)) : PGs X (e :: es) (tTgs X.K F T O W (consG g k)) :=
  PGs.imp (pgs_cons h1 h2 hs) fun vs σ H Q ⟨m, h, μ, xs, s, hr, rx, p⟩ => by
    cases rx with
    | nil => exact p.elim
    | cons a b =>
      refine ⟨_, _, rfl, m, h, μ, _, s, hr, a, PoS.sq p fun μ1 σ1 m1 h1 H1 s1 r1 st1 p1 => ?_⟩
      exact ⟨m1, h1, μ1, _, s1, r1, b.st st1, p1⟩
theorem PG.or {X : Cx} {e : Expr} {t t' : TG} (a : PG X e t) (b : PG X e t') : PG X e (fun v σ H Q => t v σ H Q ∨ t' v σ H Q) := ⟨fun pins s σ H v u Q I r w => w.elim (a.run pins s σ H v u Q I r) (b.run pins s σ H v u Q I r)⟩
theorem pg_tupM {k : GsF} {n i : Nat} (h : PG X (.Tuple es i pos) (gTup X.K n (tTgs X.K F T O W k))) (hl : PG X (.Tuple es i pos) (gUnl X.K n (tTgs X.K F T O W k))) : PG X (.Tuple es i pos) (tTg X.K F T O W (tupG n k)) := PG.imp (PG.or h hl) fun v σ H Q ⟨m, h, μ, x, s, hr, rx, p⟩ => by
  unfold tupG at p
  split at p
  · rename_i xs ex
    split at p
    · rename_i hn
      obtain ⟨a, vs, e1, e2, e3⟩ := seqM_ok hr rx ex
      rcases e2 with e2 | e2
      · exact .inr ⟨a, vs, e1, e2, by rw [e3.length]; exact hn, m, h, μ, xs, s, hr, e3, p⟩
      · exact .inl ⟨a, vs, e1, e2, by rw [e3.length]; exact hn, m, h, μ, xs, s, hr, e3, p⟩
    · exact p.elim
  · exact p.elim
theorem SR.unset {K : PySem.W.Frag} {H : Hp} {m : Nat → Addr} {n : Nat} {μ : ME} {σ : L2.St} (s : SR K F O H m n μ σ) (i : Nat) : SR K F O H m n (μ.set i none) σ := by
  refine s.wk (by rw [List.length_set]) fun j v e => ?_
  by_cases hj : i = j
  · subst hj
    rcases Nat.lt_or_ge i μ.length with hl | hl
    · rw [List.getElem?_set_self hl] at e
      cases e
    · rw [List.getElem?_eq_none_iff.mpr (by rw [List.length_set]; exact hl)] at e
      cases e
  · rwa [List.getElem?_set_ne hj] at e
theorem SR.wipe1 {K : PySem.W.Frag} {H : Hp} {m : Nat → Addr} {n : Nat} {μ : ME} {σ : L2.St} (s : SR K F O H m n μ σ) : ∀ is : List Nat, SR K F O H m n (wipeM μ is) σ
  | [] => s
  | i :: is => (SR.wipe1 s is).unset i
theorem ps_clrM {is : List Nat} (h1 : PS X st (tS X.K F T O W s1)) : PS X st (tS X.K F T O W (clrS is s1)) :=
  PS.imp h1 fun D σ H ⟨m, h, μ, s, hr, p⟩ => ⟨m, h, wipeM μ is, s.wipe1 is, hr, p⟩
theorem ps_aftM {is : List Nat} (h1 : PS X st (tS X.K F T O W s1)) : PS X st (tS X.K F T O W (afterS is s1)) :=
  PS.imp h1 fun D σ H ⟨m, h, μ, s, hr, p⟩ => ⟨m, h, μ, s, hr, by
    unfold afterS at p
    generalize s1 μ h = r at p ⊢
    cases r with
    | next μ1 h' => exact fun m' H' σ' st q => p m' H' σ' st (q.wipe1 is)
    | _ => exact p⟩
theorem frzV_ok {K : PySem.W.Frag} {H : Hp} {m : Nat → Addr} {h h1 : MH} {v w : MV} {x : V} (hr : HR K F T m h H) (rv : RV K F H m h.length v x) (e : frzV h v = some (w, h1)) :
    ∃ d u, x = .ref d ∧ H d = some u ∧ Mut (some u) ∧ ∀ od, Stp K F T m h.length H m h1 (upd H d (.frz od u)) ∧ RV K F (upd H d (.frz od u)) m h1.length w x := by
  cases rv with
  | ref hi =>
    rename_i j
    have go : ∀ {u : HO}, H (m j) = some u → ¬ Imm K F u → (∀ ps, u ≠ .tbl ps) → ∀ od, Stp K F T m h.length H m (h.set j .dead) (upd H (m j) (.frz od u)) := fun {u} e1 nu n1 od =>
      hr.put hi e1 nu n1 ⟨_, upd_same, fun ps z => by cases z⟩
    unfold frzV at e
    dsimp only at e
    split at e
    · rename_i xs ej
      cases e
      obtain ⟨vs, e1, e2⟩ := hr.obj j _ ej
      refine ⟨_, _, rfl, e1, trivial, fun od => ?_⟩
      have st := go e1 (fun z => z) (fun ps z => by cases z) od
      exact ⟨st, .lst upd_same (e2.st st)⟩
    · rename_i p kvs ej
      cases e
      rcases hr.obj j _ ej with ⟨kws, e1, e2⟩ | ⟨z, _⟩
      · refine ⟨_, _, rfl, e1, trivial, fun od => ?_⟩
        have st := go e1 (fun z => z) (fun ps z => by cases z) od
        exact ⟨st, .dic upd_same (krv_keys e2) ((krv_vals e2).st st)⟩
      · cases z
    · rename_i kvs ej
      cases e
      obtain ⟨kws, e1, e2⟩ := hr.obj j _ ej
      refine ⟨_, _, rfl, e1, trivial, fun od => ?_⟩
      have st := go e1 (fun z => z) (fun ps z => by cases z) od
      exact ⟨st, .dicT upd_same (krv_keys e2) ((krv_vals e2).st st)⟩
    · cases e
  | _ => cases e
/-- w, behind some locks -/
inductive LkW (w : Hp → Prop) : Hp → Prop
  | done {H : Hp} : w H → LkW w H
  | step {H : Hp} {d : Addr} {u : HO} : H d = some u → Mut (some u) → (∀ od, LkW w (upd H d (.frz od u))) → LkW w H
theorem PS.lks {X : Cx} {e : Stmt} {t : TS} (h : PS X e t) : PS X e (fun D σ H => LkW (fun H => t D σ H) H) := ⟨fun pins s σ H D I w => by
  induction w with
  | done w => exact h.run pins s σ _ D I w
  | step hd mu _ ih =>
    obtain ⟨od, I2⟩ := I.lock hd mu
    exact ih od I2⟩
/-- what stood there stands there, or is locked -/
def Lo (H H1 : Hp) : Prop := ∀ a u, H a = some u → H1 a = some u ∨ ∃ o, H1 a = some (.frz o u)
theorem frzDs_ok {K : PySem.W.Frag} {m : Nat → Addr} {f : MH → MV → Option (MV × MH)} (hf : ∀ {H : Hp} {h h1 : MH} {v w : MV} {x : V} {Wd : Hp → Prop}, HR K F T m h H → RV K F H m h.length v x → f h v = some (w, h1) → (∀ H1, Stp K F T m h.length H m h1 H1 → Lo H H1 → RV K F H1 m h1.length w x → LkW Wd H1) → LkW Wd H) :
    ∀ {xs ys : List MV} {vs : List V} {H : Hp} {h h1 : MH} {Wd : Hp → Prop}, HR K F T m h H → RVs K F H m h.length xs vs → frzDs f h xs = some (ys, h1) → (∀ H1, Stp K F T m h.length H m h1 H1 → Lo H H1 → RVs K F H1 m h1.length ys vs → LkW Wd H1) → LkW Wd H
  | [], _, _, H, h, _, Wd, hr, .nil, e, k => by
    cases e
    exact k H (Stp.refl hr) (fun _ _ z => .inl z) .nil
  | x :: xs, _, _, H, h, h1, Wd, hr, .cons a b, e, k => by
    unfold frzDs at e
    split at e
    · rename_i y h2 e1
      split at e
      · rename_i ys h3 e2
        cases e
        refine hf hr a e1 fun H1 st lo ry => ?_
        refine frzDs_ok hf st.hr (b.st st) e2 fun H2 st2 lo2 rs => ?_
        refine k H2 (st.tr st2) (fun c u z => ?_) (.cons (ry.st st2) rs)
        rcases lo c u z with z | ⟨o, z⟩
        · exact lo2 c u z
        · exact .inr ⟨o, st2.fx _ _ z trivial⟩
      · cases e
    · cases e
theorem frzD_ok {K : PySem.W.Frag} {m : Nat → Addr} : ∀ (n : Nat) {H : Hp} {h h1 : MH} {v w : MV} {x : V} {Wd : Hp → Prop}, HR K F T m h H → RV K F H m h.length v x → frzD n h v = some (w, h1) → (∀ H1, Stp K F T m h.length H m h1 H1 → Lo H H1 → RV K F H1 m h1.length w x → LkW Wd H1) → LkW Wd H
  | 0, _, _, _, _, _, _, _, _, _, e, _ => by cases e
  | n + 1, H, h, h1, v, w, x, Wd, hr, rv, e, k => by
    unfold frzD at e
    split at e
    · cases e
    · rename_i n' h' j hn
      cases hn
      split at e
      · rename_i xs ej
        split at e
        · rename_i ys h2 e2
          split at e
          · rename_i zs ej2
            cases e
            cases rv with
            | ref hi =>
              obtain ⟨vs, e3, e4⟩ := hr.obj j _ ej
              refine frzDs_ok (fun a b c d => frzD_ok n a b c d) hr e4 e2 fun H1 st lo rs => ?_
              have hi2 : j < h2.length := (List.getElem?_eq_some_iff.mp ej2).1
              obtain ⟨vs', e5, _⟩ := st.hr.obj j _ ej2
              have e6 : H1 (m j) = some (.lst vs) := by
                rcases lo _ _ e3 with z | ⟨o, z⟩
                · exact z
                · rw [z] at e5
                  cases e5
              refine .step e6 trivial fun od => ?_
              have st2 : Stp K F T m h2.length H1 m (h2.set j .dead) (upd H1 (m j) (.frz od (.lst vs))) := st.hr.put hi2 e6 (fun z => z) (fun ps z => by cases z) ⟨_, upd_same, fun ps z => by cases z⟩
              refine k _ (st.tr st2) (fun c u z => ?_) (.lst upd_same (rs.st st2))
              by_cases hc : c = m j
              · subst hc
                rw [e3] at z
                cases z
                exact .inr ⟨od, upd_same⟩
              · rw [upd_ne hc]
                exact lo c u z
          · cases e
        · cases e
      · cases e
    · rename_i n' h' v' hn _
      cases hn
      cases e
      exact k H (Stp.refl hr) (fun _ _ z => .inl z) rv
theorem ps_frzDM {i : Nat} (h1 : PS X st (tS X.K F T O W s1)) : PS X st (tS X.K F T O W (frzDS i s1)) :=
  PS.imp (PS.lks h1) fun D σ H ⟨m, h, μ, s, hr, p⟩ => by
    unfold frzDS at p
    split at p
    · rename_i v ev
      split at p
      · rename_i w h2 e2
        obtain ⟨x, ex, rx⟩ := s.get i v ev
        refine frzD_ok 9 hr rx e2 fun H1 st _ rw' => .done ?_
        have s2 := (s.st st).set rw' i
        have hl : σ.set i (some x) = σ := by
          apply List.ext_getElem?
          intro j
          by_cases hj : i = j
          · subst hj
            rw [List.getElem?_set_self (List.getElem?_eq_some_iff.mp ex).1, ex]
          · rw [List.getElem?_set_ne hj]
        rw [hl] at s2
        exact ⟨m, h2, _, s2, st.hr, PoS.st st p⟩
      · exact p.elim
    · exact p.elim
theorem ps_frzCM {i : Nat} (h1 : PS X st (tS X.K F T O W s1)) : PS X st (tS X.K F T O W (frzCS i s1)) :=
  PS.imp (PS.lks h1) fun D σ H ⟨m, h, μ, s, hr, p⟩ => by
    unfold frzCS at p
    split at p
    · rename_i j ev
      split at p
      · rename_i xs ej
        split at p
        · rename_i ys h2 e2
          split at p
          · rename_i zs ej2
            obtain ⟨x, ex, rx⟩ := s.get i _ ev
            cases rx with
            | ref hi =>
              obtain ⟨vs, e3, e4⟩ := hr.obj j _ ej
              refine frzDs_ok (fun a b c d => frzD_ok 9 a b c d) hr e4 e2 fun H1 st lo rs => .done ?_
              have hi2 : j < h2.length := (List.getElem?_eq_some_iff.mp ej2).1
              obtain ⟨vs', e5, _⟩ := st.hr.obj j _ ej2
              have e6 : H1 (m j) = some (.lst vs) := by
                rcases lo _ _ e3 with z | ⟨o, z⟩
                · exact z
                · rw [z] at e5
                  cases e5
              have eu : upd H1 (m j) (.lst vs) = H1 := by
                funext c
                by_cases hc : c = m j
                · subst hc
                  rw [upd_same, e6]
                · rw [upd_ne hc]
              have st2 : Stp X.K F T m h2.length H1 m (h2.set j (.lst ys)) (upd H1 (m j) (.lst vs)) := st.hr.put hi2 e6 (fun z => z) (fun ps z => by cases z) ⟨_, upd_same, by rw [eu]; exact rs⟩
              rw [eu] at st2
              have st3 := st.tr st2
              exact ⟨m, _, μ, s.st st3, st3.hr, PoS.st st3 p⟩
          · exact p.elim
        · exact p.elim
      · exact p.elim
    · exact p.elim
theorem ps_frzM {i : Nat} (h1 : PS X st (tS X.K F T O W s1)) : PS X st (tS X.K F T O W (frzS i s1)) :=
  PS.imp (PS.lk h1) fun D σ H ⟨m, h, μ, s, hr, p⟩ => by
    unfold frzS at p
    split at p
    · rename_i v ev
      split at p
      · rename_i w h2 e2
        obtain ⟨x, ex, rx⟩ := s.get i v ev
        obtain ⟨d, u, e3, e4, e5, e6⟩ := frzV_ok hr rx e2
        refine ⟨d, u, e4, e5, fun od => ?_⟩
        obtain ⟨st, rw'⟩ := e6 od
        have s2 := (s.st st).set rw' i
        have hl : σ.set i (some x) = σ := by
          apply List.ext_getElem?
          intro j
          by_cases hj : i = j
          · subst hj
            rw [List.getElem?_set_self (List.getElem?_eq_some_iff.mp ex).1, ex]
          · rw [List.getElem?_set_ne hj]
        rw [hl] at s2
        exact ⟨m, h2, _, s2, st.hr, PoS.st st p⟩
      · exact p.elim
    · exact p.elim
theorem pg_subM {o i : Expr} (ho : PE X o (tE X.K F T O W f)) (hi : PE X i (tE X.K F T O W g)) (hu : X.A.units + 1 < cLine)
    (ha : ∀ v, assign (.Subscript o i pos) X.env v = (do
      let ov ← holding [v] (eval o X.env)
      let iv ← holding [v, ov] (eval i X.env)
      standAt pos
      holding [v, ov, iv] (setItem ov iv v)
      release [v, ov, iv] [])) : PG X (.Subscript o i pos) (tTg X.K F T O W (subG f g)) :=
  PG.imp (pg_sub ho hi (set_any hu) ha) fun v σ H Q ⟨m, h, μ, x, s, hr, rx, p⟩ => PoS.ex s hr p fun ov ou m1 h1 H1 s1 r1 st1 q1 p1 => PoS.ex s1 r1 p1 fun iv iu m2 h2 H2 s2 r2 st2 q2 p2 => by
    split at p2
    · rename_i h3 e3
      exact setM_ok r2 (q1.st st2) q2 (rx.st (st1.tr st2)) e3 fun H' st3 => p2 m2 H' σ st3 (s2.st st3)
    · exact p2.elim
theorem ps_asgM {tg : Expr} {g : GF} (he : PE X e (tE X.K F T O W f)) (hg : PG X tg (tTg X.K F T O W g)) (hs : swapsWithSole [tg] e pos.line X.env = pure false) (hw : swappedStores [tg] e X.env = pure none)
    (h1 : (assignEach [tg] X.env).map (·.2) = [assign tg X.env]) : PS X (.Assign [tg] e pos) (tS X.K F T O W (asgS f g)) :=
  PS.imp (ps_asg he hg hs hw h1) fun D σ H ⟨m, h, μ, s, hr, p⟩ => PoS.ex s hr p fun x u m1 h1 H1 s1 r1 st1 q1 p1 => ⟨m1, h1, μ, x, s1, r1, q1, p1.only fun _ _ z => z⟩
theorem par2_ok {K : PySem.W.Frag} {i j : Nat} {D : Ends} {σ : L2.St} {H : Hp} (w : tS K F T O W (parS 2 l (consG (nameG i) (consG (nameG j) nilG))) D σ H) : tPar i j (tA K F T O W l) D σ H := by
  obtain ⟨m, h, μ, s, hr, p⟩ := w
  refine PoS.ex s hr p fun xs us m1 h1 H1 s1 r1 st1 q1 p1 => ?_
  split at p1
  · cases q1 with
    | nil => exact p1.elim
    | cons a b =>
      cases b with
      | nil => exact p1.elim
      | cons a2 b2 =>
        cases b2 with
        | nil => exact ⟨_, _, rfl, p1 m1 H1 _ (Stp.refl r1) ((s1.set a i).set a2 j)⟩
        | cons _ _ => exact p1.elim
  · exact p1.elim
theorem par3_ok {K : PySem.W.Frag} {i j k : Nat} {D : Ends} {σ : L2.St} {H : Hp} (w : tS K F T O W (parS 3 l (consG (nameG i) (consG (nameG j) (consG (nameG k) nilG)))) D σ H) : tPar3 i j k (tA K F T O W l) D σ H := by
  obtain ⟨m, h, μ, s, hr, p⟩ := w
  refine PoS.ex s hr p fun xs us m1 h1 H1 s1 r1 st1 q1 p1 => ?_
  split at p1
  · cases q1 with
    | nil => exact p1.elim
    | cons a b =>
      cases b with
      | nil => exact p1.elim
      | cons a2 b2 =>
        cases b2 with
        | nil => exact p1.elim
        | cons a3 b3 =>
          cases b3 with
          | nil => exact ⟨_, _, _, rfl, p1 m1 H1 _ (Stp.refl r1) (((s1.set a i).set a2 j).set a3 k)⟩
          | cons _ _ => exact p1.elim
  · exact p1.elim
/-- .. by a tuple that is made and taken apart -/
theorem parT_ok {K : PySem.W.Frag} {n : Nat} {g : GsF} {D : Ends} {σ : L2.St} {H : Hp} (w : tS K F T O W (parS n l g) D σ H) : tAsg (tTup (tA K F T O W l)) (gTup K n (tTgs K F T O W g)) D σ H := by
  obtain ⟨m, h, μ, s, hr, p⟩ := w
  refine PoS.ex s hr p fun xs us m1 h1 H1 s1 r1 st1 q1 p1 => ?_
  split at p1
  · rename_i hl
    refine ⟨by rw [q1.length]; exact Nat.le_trans hl.1 (by decide), fun q hq => ?_⟩
    have st : Stp K F T m1 h1.length H1 m1 h1 (upd H1 q (.tup us)) := r1.aux hq
    exact ⟨q, us, rfl, SqT.of upd_same, by rw [q1.length]; exact hl.2, m1, h1, μ, xs, s1.st st, st.hr, q1.st st, (PoS.st st p1).only fun _ _ z => z⟩
  · exact p1.elim
end
end M

set_option Elab.async false
set_option linter.all false
set_option maxRecDepth 100000
set_option maxHeartbeats 4000000
/-! loops and comprehensions of the machine -/
namespace M
open PySem PySem.Spec PyProof.Rows L2 DL
/-- what is walked: nothing where it is none; none where it stops -/
abbrev MI := Nat → MH → Option (Option MV)
abbrev IF := ME → MH → R MI
section
variable (K : PySem.W.Frag) (F : Flds) (T : List (Addr × Str)) (O : Ot)
abbrev rlI : Rel MI It := fun H m n mi J => ∀ m' h' H', Stp K F T m n H m' h' H' → ∀ k, (∀ v, mi k h' = some (some v) → J.go k H' ∧ ∀ x H2, J.yld k H' x H2 → Stp K F T m' h'.length H' m' h' H2 ∧ RV K F H2 m' h'.length v x) ∧ (mi k h' = some none → J.stop k H')
abbrev tI (W : WX) (f : IF) : TI := tG K F T O (rlI K F T) W f
end
theorem PI.imp {X : Cx} {tg e : Expr} {t t' : TI} (h : PI X tg e t) (i : ∀ σ H Q, t' σ H Q → t σ H Q) : PI X tg e t' := ⟨fun pins s σ H Q I w => h.run pins s σ H Q I (i σ H Q w)⟩
/-- the items of a list or tuple, as it stands at each turn -/
def seqI (x : MV) : MI := fun k h => (seqM h x).map fun xs => xs[k]?
def seqIt (f : EF) : IF := fun μ h => (f μ h).bind fun x h1 => match seqM h1 x with
  | some _ => .ok (seqI x) h1
  | none => match x with
    | .dic ks _ => .ok (fun k _ => some (ks.map kM)[k]?) h1
    | .dicT ks _ => .ok (fun k _ => some (ks.map fun k => MV.tup (k.map kM))[k]?) h1
    | _ => .bad
def rngI (lo : Int) (n : Nat) : MI := fun k _ => some (if k < n then some (.int (lo + (k : Int))) else none)
def small62 (i : Int) : Bool := decide (-(2 ^ 62) ≤ i) && decide (i < 2 ^ 62)
def rng1It (f : AF) : IF := fun μ h => (f μ h).bind fun xs h1 => match xs with
  | [.int j] => if small62 j then .ok (rngI 0 j.toNat) h1 else .bad
  | _ => .bad
def rng2It (f : AF) : IF := fun μ h => (f μ h).bind fun xs h1 => match xs with
  | [.int i, .int j] => if small62 i && small62 j then .ok (rngI i (j - i).toNat) h1 else .bad
  | _ => .bad
section
variable {K : PySem.W.Frag} {F : Flds} {T : List (Addr × Str)} {O : Ot} {X : Cx} {W : WX} {tg e : Expr} {f : EF} {l : AF}
theorem seq_rl {H : Hp} {m : Nat → Addr} {h : MH} {x : MV} {u : V} {xs : List MV} (hr : HR K F T m h H) (ru : RV K F H m h.length x u) (e : seqM h x = some xs) :
    ∃ a, u = .ref a ∧ (((∃ ys, SqL K H a ys) ∧ rlI K F T H m h.length (seqI x) (Itl K a)) ∨ ((∃ ys, SqT K H a ys) ∧ rlI K F T H m h.length (seqI x) (Itt K a))) := by
  cases ru with
  | tup h1 h2 =>
    rename_i ys vs a
    cases e
    refine ⟨a, rfl, .inr ⟨⟨vs, SqT.of h1⟩, fun m' h' H' st k => ?_⟩⟩
    have h1' := st.fx _ _ h1 trivial
    have h2' := h2.st st
    refine ⟨fun v hv => ?_, fun hv => ?_⟩
    · obtain ⟨w, e1, e2⟩ := h2'.get (show xs[k]? = some v from Option.some.inj hv)
      refine ⟨⟨vs, w, SqT.of h1', e1⟩, fun y H2 ⟨eH, hy⟩ => ?_⟩
      subst eH
      have := hy vs (SqT.of h1')
      rw [e1] at this
      cases this
      exact ⟨Stp.refl st.hr, e2⟩
    · refine ⟨vs, SqT.of h1', ?_⟩
      rw [h2'.length]
      exact List.getElem?_eq_none_iff.mp (Option.some.inj hv)
  | scr h1 h2 =>
    rename_i ys vs a
    cases e
    refine ⟨a, rfl, .inl ⟨⟨vs, h1.imp .inr fun z => z⟩, fun m' h' H' st k => ?_⟩⟩
    have h1' : SqL K H' a vs := h1.imp (fun ⟨o, e⟩ => .inr ⟨o, st.fx _ _ e trivial⟩) fun z => z
    have h2' := h2.st st
    refine ⟨fun v hv => ?_, fun hv => ?_⟩
    · obtain ⟨w, e1, e2⟩ := h2'.get (show xs[k]? = some v from Option.some.inj hv)
      refine ⟨⟨vs, w, h1', e1⟩, fun y H2 ⟨eH, hy⟩ => ?_⟩
      subst eH
      have := hy vs h1'
      rw [e1] at this
      cases this
      exact ⟨Stp.refl st.hr, e2⟩
    · refine ⟨vs, h1', ?_⟩
      rw [h2'.length]
      exact List.getElem?_eq_none_iff.mp (Option.some.inj hv)
  | lst h1 h2 =>
    rename_i ys vs a o
    cases e
    refine ⟨a, rfl, .inl ⟨⟨vs, .inl (.inr ⟨_, h1⟩)⟩, fun m' h' H' st k => ?_⟩⟩
    have h1' : SqL K H' a vs := .inl (.inr ⟨_, st.fx _ _ h1 trivial⟩)
    have h2' := h2.st st
    refine ⟨fun v hv => ?_, fun hv => ?_⟩
    · obtain ⟨w, e1, e2⟩ := h2'.get (show xs[k]? = some v from Option.some.inj hv)
      refine ⟨⟨vs, w, h1', e1⟩, fun y H2 ⟨eH, hy⟩ => ?_⟩
      subst eH
      have := hy vs h1'
      rw [e1] at this
      cases this
      exact ⟨Stp.refl st.hr, e2⟩
    · refine ⟨vs, h1', ?_⟩
      rw [h2'.length]
      exact List.getElem?_eq_none_iff.mp (Option.some.inj hv)
  | ref hi =>
    rename_i i
    have rr : RV K F H m h.length (.ref i) (.ref (m i)) := .ref hi
    obtain ⟨a, vs, e1, e2, e3⟩ := lstM_ok hr rr (x := .ref i) e
    refine ⟨m i, rfl, .inl ⟨⟨vs, by cases e1; exact e2⟩, fun m' h' H' st k => ?_⟩⟩
    have q : ∀ ys, lstM h' (.ref i) = some ys → ∃ us, SqL K H' (m i) us ∧ RVs K F H' m' h'.length ys us := fun ys ey => by
      obtain ⟨a', us, f1, f2, f3⟩ := lstM_ok st.hr (rr.st st) (x := .ref i) ey
      cases f1
      exact ⟨us, f2, f3⟩
    refine ⟨fun v hv => ?_, fun hv => ?_⟩
    · obtain ⟨ys, ey, ev⟩ := Option.map_eq_some_iff.mp (show (seqM h' (.ref i)).map (fun xs => xs[k]?) = some (some v) from hv)
      obtain ⟨us, f1, f2⟩ := q ys ey
      obtain ⟨w, g1, g2⟩ := f2.get ev
      refine ⟨⟨us, w, f1, g1⟩, fun y H2 ⟨eH, hy⟩ => ?_⟩
      subst eH
      have := hy us f1
      rw [g1] at this
      cases this
      exact ⟨Stp.refl st.hr, g2⟩
    · obtain ⟨ys, ey, ev⟩ := Option.map_eq_some_iff.mp (show (seqM h' (.ref i)).map (fun xs => xs[k]?) = some none from hv)
      obtain ⟨us, f1, f2⟩ := q ys ey
      refine ⟨us, f1, ?_⟩
      rw [f2.length]
      exact List.getElem?_eq_none_iff.mp ev
  | _ => cases e
/-- a dict's keys -/
def keyLs : MV → Option (List MV)
  | .dic ks _ => some (ks.map kM)
  | .dicT ks _ => some (ks.map fun k => .tup (k.map kM))
  | _ => none
def lsI (xs : List MV) : MI := fun k _ => some xs[k]?
theorem keys_rl {H : Hp} {m : Nat → Addr} {h : MH} {x : MV} {u : V} {xs : List MV} (hr : HR K F T m h H) (ru : RV K F H m h.length x u) (e : keyLs x = some xs) :
    ∃ d o, u = .ref d ∧ ((∃ kvs, H d = some (.frz o (.dK kvs)) ∧ rlI K F T H m h.length (lsI xs) (Itk d o kvs)) ∨ ∃ kvs, H d = some (.frz o (.dT kvs)) ∧ rlI K F T H m h.length (lsI xs) (Itkt d o kvs)) := by
  cases ru with
  | @dic ks ys kws a o h1 h2 h3 =>
    cases e
    subst h2
    refine ⟨a, o, rfl, .inl ⟨kws, h1, fun m' h' H' st k => ?_⟩⟩
    have h1' := st.fx _ _ h1 trivial
    refine ⟨fun v hv => ?_, fun hv => ?_⟩
    · have hv' : (List.map kM (kws.map (·.1)))[k]? = some v := Option.some.inj hv
      rw [List.map_map, List.getElem?_map] at hv'
      obtain ⟨p, e1, e2⟩ := Option.map_eq_some_iff.mp hv'
      refine ⟨⟨h1', (List.getElem?_eq_some_iff.mp e1).1⟩, fun y H2 ⟨eH, k', v', e3, e4⟩ => ?_⟩
      subst eH
      rw [e1] at e3
      cases e3
      subst e4
      cases e2
      exact ⟨Stp.refl st.hr, rv_kM _⟩
    · have hv' : (List.map kM (kws.map (·.1)))[k]? = none := Option.some.inj hv
      have := List.getElem?_eq_none_iff.mp hv'
      rw [List.length_map, List.length_map] at this
      exact ⟨h1', this⟩
  | @dicT ks ys kws a o h1 h2 h3 =>
    cases e
    subst h2
    refine ⟨a, o, rfl, .inr ⟨kws, h1, fun m' h' H' st k => ?_⟩⟩
    have h1' := st.fx _ _ h1 trivial
    refine ⟨fun v hv => ?_, fun hv => ?_⟩
    · have hv' : (List.map (fun k : List Key => MV.tup (k.map kM)) (kws.map (·.1)))[k]? = some v := Option.some.inj hv
      rw [List.map_map, List.getElem?_map] at hv'
      obtain ⟨p, e1, e2⟩ := Option.map_eq_some_iff.mp hv'
      refine ⟨⟨h1', (List.getElem?_eq_some_iff.mp e1).1⟩, fun y H2 ⟨eH, k', v', q, e3, e4, e5⟩ => ?_⟩
      subst eH
      rw [e1] at e3
      cases e3
      subst e4
      cases e2
      exact ⟨Stp.refl st.hr, .tup e5 (rvs_kM _)⟩
    · have hv' : (List.map (fun k : List Key => MV.tup (k.map kM)) (kws.map (·.1)))[k]? = none := Option.some.inj hv
      have := List.getElem?_eq_none_iff.mp hv'
      rw [List.length_map, List.length_map] at this
      exact ⟨h1', this⟩
  | _ => cases e
theorem PI.or {t t' : TI} (a : PI X tg e t) (b : PI X tg e t') : PI X tg e (fun σ H Q => t σ H Q ∨ t' σ H Q) := ⟨fun pins s σ H Q I w => w.elim (a.run pins s σ H Q I) (b.run pins s σ H Q I)⟩
def isDic : R MV → Bool
  | .ok (.dic _ _) _ => true
  | .ok (.dicT _ _) _ => true
  | _ => false
theorem pi_seqM (he : PE X e (tE X.K F T O W f)) : PI X tg e (tI X.K F T O W (seqIt f)) :=
  PI.imp (PI.or (pi_dat he) (pi_keys he)) fun σ H R ⟨m, h, μ, s, hr, p⟩ => by
    by_cases hd : isDic (f μ h) = true
    · refine .inr (tG.seqE s hr p fun x u m1 h1 H1 ex s1 r1 st1 q1 p1 => ?_)
      rw [ex] at hd
      have go : ∀ xs, keyLs x = some xs → Po X.K F T (rlI X.K F T) W m1 h1.length σ H1 R (.ok (lsI xs) h1) → ∃ d o, u = .ref d ∧ ((∃ kvs, H1 d = some (.frz o (.dK kvs)) ∧ R (Itk d o kvs) H1) ∨ ∃ kvs, H1 d = some (.frz o (.dT kvs)) ∧ R (Itkt d o kvs) H1) := fun xs ek p2 => by
        obtain ⟨d, o, e1, z⟩ := keys_rl r1 q1 ek
        refine ⟨d, o, e1, ?_⟩
        rcases z with ⟨kvs, z1, z2⟩ | ⟨kvs, z1, z2⟩
        · exact .inl ⟨kvs, z1, p2 m1 H1 _ (Stp.refl r1) z2⟩
        · exact .inr ⟨kvs, z1, p2 m1 H1 _ (Stp.refl r1) z2⟩
      cases x with
      | dic ks xs => exact go _ rfl p1
      | dicT ks xs => exact go _ rfl p1
      | _ => cases hd
    · refine .inl (tG.seqE s hr p fun x u m1 h1 H1 ex s1 r1 st1 q1 p1 => ?_)
      rw [ex] at hd
      split at p1
      · rename_i xs ex
        obtain ⟨a, e1, z⟩ := seq_rl r1 q1 ex
        refine ⟨a, e1, ?_⟩
        rcases z with ⟨z1, z2⟩ | ⟨z1, z2⟩
        · exact .inl ⟨z1, p1 m1 H1 _ (Stp.refl r1) z2⟩
        · exact .inr ⟨z1, p1 m1 H1 _ (Stp.refl r1) z2⟩
      · cases x with
        | dic ks xs => exact absurd rfl hd
        | dicT ks xs => exact absurd rfl hd
        | _ => exact p1.elim
theorem rng_rl {H : Hp} {m : Nat → Addr} {n : Nat} {lo : Int} {c : Nat} : rlI K F T H m n (rngI lo c) (Itr lo c) := fun m' h' H' st k => by
  refine ⟨fun v hv => ?_, fun hv => ?_⟩
  · have hv' := Option.some.inj hv
    split at hv'
    · rename_i hk
      cases hv'
      refine ⟨hk, fun y H2 ⟨eH, hy⟩ => ?_⟩
      subst eH hy
      exact ⟨Stp.refl st.hr, .int _⟩
    · cases hv'
  · have hv' := Option.some.inj hv
    split at hv'
    · cases hv'
    · rename_i hk
      exact Nat.le_of_not_lt hk
theorem pi_rng1M {a : Expr} {p pos : Pos} (hg : Gl X "range") (hm : X.mg "range" = none) (ha : PA X [a] (tA X.K F T O W l)) (hs : starEach [a] X.env = [(false, eval a X.env)]) : PI X tg (.Call (.Name "range" p) [a] [] pos) (tI X.K F T O W (rng1It l)) :=
  PI.imp (pi_range1 hg hm ha hs) fun σ H R ⟨m, h, μ, s, hr, p⟩ => tG.seq s hr p fun x u m1 h1 H1 s1 r1 st1 q1 p1 => by
    split at p1
    · rename_i j
      obtain ⟨u', rfl, ru⟩ := rvs1 q1
      cases ru
      split at p1
      · rename_i hj
        unfold small62 at hj
        rw [Bool.and_eq_true] at hj
        exact ⟨j, rfl, of_decide_eq_true hj.1, of_decide_eq_true hj.2, p1 m1 H1 _ (Stp.refl r1) rng_rl⟩
      · exact p1.elim
    · exact p1.elim
theorem pi_rng2M {a b : Expr} {p pos : Pos} (hg : Gl X "range") (hm : X.mg "range" = none) (ha : PA X [a, b] (tA X.K F T O W l)) (hs : starEach [a, b] X.env = [(false, eval a X.env), (false, eval b X.env)]) (hs2 : starEach [b] X.env = [(false, eval b X.env)]) : PI X tg (.Call (.Name "range" p) [a, b] [] pos) (tI X.K F T O W (rng2It l)) :=
  PI.imp (pi_range2 hg hm ha hs hs2) fun σ H R ⟨m, h, μ, s, hr, p⟩ => tG.seq s hr p fun x u m1 h1 H1 s1 r1 st1 q1 p1 => by
    split at p1
    · rename_i i j
      obtain ⟨u', v', rfl, ru, rv⟩ := rvs2 q1
      cases ru
      cases rv
      split at p1
      · rename_i hj
        unfold small62 at hj
        rw [Bool.and_eq_true, Bool.and_eq_true, Bool.and_eq_true] at hj
        exact ⟨i, j, rfl, ⟨of_decide_eq_true hj.1.1, of_decide_eq_true hj.1.2, of_decide_eq_true hj.2.1, of_decide_eq_true hj.2.2⟩, p1 m1 H1 _ (Stp.refl r1) rng_rl⟩
      · exact p1.elim
    · exact p1.elim
end
/-! ### for, while -/
def FUEL : Nat := 1000000
def RS.loop (cl : List Nat) (r : RS) (k : ME → MH → RS) : RS := match r with
  | .next μ h => k μ h
  | .cnt μ h => k μ h
  | .brk μ h => .next (wipeM μ cl) h
  | r => r
def forLoop (mi : MI) (cl : List Nat) (g : GF) (body : SF) : Nat → Nat → ME → MH → RS
  | 0, _, _, _ => .bad
  | f + 1, k, μ, h => match mi k h with
    | none => .bad
    | some none => .next (wipeM μ cl) h
    | some (some v) => (((g v (wipeM μ cl) h).only).then body).loop cl fun μ1 h1 => forLoop mi cl g body f (k + 1) μ1 h1
def forS (cl : List Nat) (it : IF) (g : GF) (body : SF) : SF := fun μ h => (it μ h).st μ fun mi h1 => forLoop mi cl g body FUEL 0 μ h1
def whileLoop (cl : List Nat) (c : TF) (body : SF) : Nat → ME → MH → RS
  | 0, _, _ => .bad
  | f + 1, μ, h => (c (wipeM μ cl) h).st (wipeM μ cl) fun b h1 => if b then (body (wipeM μ cl) h1).loop cl fun μ1 h2 => whileLoop cl c body f μ1 h2 else .next (wipeM μ cl) h1
def whileS (cl : List Nat) (c : TF) (body : SF) : SF := fun μ h => whileLoop cl c body FUEL μ h
section
variable {K : PySem.W.Frag} {F : Flds} {T : List (Addr × Str)} {O : Ot} {W : WX} {D : Ends} {m m1 : Nat → Addr} {n : Nat} {h h1 : MH} {σ : L2.St} {H H1 : Hp} {μ : ME}
theorem PoS.loop {cl : List Nat} {r : RS} {k : ME → MH → RS} {N : L2.St → Hp → Prop} (p : PoS K F T O W D m n H (r.loop cl k)) (c : ∀ μ1 σ1 m1 h1 H1, SR K F O H1 m1 h1.length μ1 σ1 → Stp K F T m n H m1 h1 H1 → PoS K F T O W D m1 h1.length H1 (k μ1 h1) → N σ1 H1) : PoS K F T O W { D with nx := N, ct := N, bk := D.nx } m n H r := by
  cases r with
  | next μ h' => exact fun m' H' σ' st q => c μ σ' m' h' H' q st (PoS.st st p)
  | cnt μ h' => exact fun m' H' σ' st q => c μ σ' m' h' H' q st (PoS.st st p)
  | brk μ h' => exact fun m' H' σ' st q => p m' H' σ' st (q.wipe1 cl)
  | ret μ h' => exact p
  | exc C vs μ h' => exact p
  | bad => exact p
end
section
variable {X : Cx} {F : Flds} {T : List (Addr × Str)} {O : Ot} {W : WX} {tg iter c : Expr} {body : List Stmt} {it : IF} {g : GF} {sb : SF} {c1 : TF} {pos : Pos} {cl : List Nat}
theorem ps_forM (hp : PassesOwn (model X.prog X.w) X.A X.env X.xe) (hc : X.calm = true) (hi : PI X tg iter (tI X.K F T O W it)) (hg : PG X tg (tTg X.K F T O W g)) (hb : PSs X body (tS X.K F T O W sb)) (hs : ∀ x, foldedSetIterable iter X.env x = pure x) :
    PS X (.For tg iter body [] pos) (tS X.K F T O W (forS cl it g sb)) :=
  PS.imp (ps_for hp hc hi hg hb hs) fun D σ H ⟨m, h, μ, s, hr, p⟩ => PoS.ex s hr p fun mi J m1 h1 H1 s1 r1 st1 q1 p1 => by
    refine ⟨fun i f σ' H' => ∃ m h μ, Stp X.K F T m1 h1.length H1 m h H' ∧ SR X.K F O H' m h.length μ σ' ∧ PoS X.K F T O W D m h.length H' (forLoop mi cl g sb f i μ h), ⟨FUEL, m1, h1, μ, Stp.refl r1, s1, p1⟩, ?_⟩
    rintro i f σ' H' ⟨m2, h2, μ2, st2, s2, p2⟩
    cases f with
    | zero => exact p2.elim
    | succ f =>
      unfold forLoop at p2
      obtain ⟨q3, q4⟩ := q1 m2 h2 H' st2 i
      split at p2
      · exact p2.elim
      · rename_i e
        exact .inl ⟨q4 e, p2 m2 H' σ' (Stp.refl st2.hr) (s2.wipe1 cl)⟩
      · rename_i v e
        obtain ⟨q5, q6⟩ := q3 v e
        refine .inr ⟨q5, fun σ3 H3 => ∃ m h μ, Stp X.K F T m1 h1.length H1 m h H3 ∧ SR X.K F O H3 m h.length μ σ3 ∧ PoS X.K F T O W D m h.length H3 (forLoop mi cl g sb f (i + 1) μ h), fun σ3 H3 z => ⟨f, Nat.lt_succ_self _, z⟩, fun x H3 y => ?_⟩
        obtain ⟨st3, rx⟩ := q6 x H3 y
        refine ⟨m2, h2, wipeM μ2 cl, v, (s2.st st3).wipe1 cl, st3.hr, rx, ?_⟩
        have p3 := PoS.loop (N := fun σ3 H3 => ∃ m h μ, Stp X.K F T m1 h1.length H1 m h H3 ∧ SR X.K F O H3 m h.length μ σ3 ∧ PoS X.K F T O W D m h.length H3 (forLoop mi cl g sb f (i + 1) μ h)) (PoS.st st3 p2) fun μ4 σ4 m4 h4 H4 s4 st4 p4 => ⟨m4, h4, μ4, (st2.tr st3).tr st4, s4, p4⟩
        exact (PoS.sq p3 fun μ5 σ5 m5 h5 H5 s5 r5 st5 p5 => ⟨m5, h5, μ5, s5, r5, p5⟩).only fun _ _ z => z
theorem ps_whileM (hp : PassesOwn (model X.prog X.w) X.A X.env X.xe) (hc : PT X c (tT X.K F T O W c1)) (hb : PSs X body (tS X.K F T O W sb)) : PS X (.While c body [] pos) (tS X.K F T O W (whileS cl c1 sb)) :=
  PS.imp (ps_while hp hc hb) fun D σ H ⟨m1, h1, μ, s1, r1, p1⟩ => by
    refine ⟨fun f σ' H' => ∃ m h μ, Stp X.K F T m1 h1.length H m h H' ∧ SR X.K F O H' m h.length μ σ' ∧ PoS X.K F T O W D m h.length H' (whileLoop cl c1 sb f μ h), ⟨FUEL, m1, h1, μ, Stp.refl r1, s1, p1⟩, ?_⟩
    rintro f σ' H' ⟨m2, h2, μ2, st2, s2, p2⟩
    cases f with
    | zero => exact p2.elim
    | succ f =>
      unfold whileLoop at p2
      refine PoS.ex (s2.wipe1 cl) st2.hr p2 fun x u m3 h3 H3 s3 r3 st3 q3 p3 => ?_
      cases q3
      cases x with
      | true =>
        refine ⟨fun σ3 H3 => ∃ m h μ, Stp X.K F T m1 h1.length H m h H3 ∧ SR X.K F O H3 m h.length μ σ3 ∧ PoS X.K F T O W D m h.length H3 (whileLoop cl c1 sb f μ h), fun σ3 H3 z => ⟨f, Nat.lt_succ_self _, z⟩, m3, h3, wipeM μ2 cl, s3, r3, ?_⟩
        exact PoS.loop p3 fun μ4 σ4 m4 h4 H4 s4 st4 p4 => ⟨m4, h4, μ4, (st2.tr st3).tr st4, s4, p4⟩
      | false => exact p3 m3 H3 σ' (Stp.refl r3) s3
end
end M

set_option Elab.async false
set_option linter.all false
set_option maxRecDepth 100000
set_option maxHeartbeats 4000000
/-! list comprehensions of the machine -/
namespace M
open PySem PySem.Spec PyProof.Rows L2 DL
section
variable {K : PySem.W.Frag} {F : Flds} {T : List (Addr × Str)} {O : Ot} {m m1 : Nat → Addr} {n : Nat} {h1 : MH} {H H1 : Hp} {D : Addr}
/-- a new list that is none of the machine's is written -/
theorem Stp.ext {u u' : HO} (s : Stp K F T m n H m1 h1 H1) (h0 : H D = none) (hD : ∀ i, i < h1.length → m1 i ≠ D) (e : H1 D = some u) (nu : ¬ Imm K F u) (n1 : ∀ ps, u ≠ .tbl ps) : Stp K F T m n H m1 h1 (upd H1 D u') := by
  have ne : ∀ a o, H a = some o → a ≠ D := fun a o e => ne_of_none e h0
  refine ⟨s.gr, s.mx, fun a o e i => by rw [upd_ne (ne a o e)]; exact s.fx a o e i, ⟨s.hr.inj, fun i o ei => ?_, Tabs.put s.hr.tabs e n1 fun c q z => nu (by rw [z]; exact trivial)⟩, fun a z => upd_live (s.dm a z), s.nw, fun a o e hn ht => by rw [upd_ne (ne a o e)]; exact s.ot a o e hn ht⟩
  exact (s.hr.obj i o ei).mo (Fix.set e nu) (fun _ _ => rfl) (Nat.le_refl _) (upd_ne (hD i (List.getElem?_eq_some_iff.mp ei).1))
/-- .. becomes the machine's -/
theorem Stp.adopt {xs : List MV} {vs : List V} (s : Stp K F T m n H m1 h1 H1) (h0 : H D = none) (hD : ∀ i, i < h1.length → m1 i ≠ D) (e : H1 D = some (.lst vs)) (r : RVs K F H1 m1 h1.length xs vs) : Stp K F T m n H (mput m1 h1.length D) (h1 ++ [.lst xs]) H1 := by
  refine ⟨by rw [List.length_append]; exact Nat.le_trans s.gr (Nat.le_add_right _ _), fun i hi => by rw [mput_lt (Nat.lt_of_lt_of_le hi s.gr)]; exact s.mx i hi, s.fx, ⟨fun i j hi hj q => ?_, fun i o ei => ?_, s.hr.tabs⟩, s.dm, fun i hi hl => ?_, s.ot⟩
  · rw [List.length_append] at hi hj
    simp only [List.length_cons, List.length_nil] at hi hj
    rcases Nat.lt_or_ge i h1.length with a | a
    · rcases Nat.lt_or_ge j h1.length with b | b
      · rw [mput_lt a, mput_lt b] at q
        exact s.hr.inj i j a b q
      · have : j = h1.length := by omega
        subst this
        rw [mput_lt a, mput_at] at q
        exact absurd q (hD i a)
    · have : i = h1.length := by omega
      subst this
      rcases Nat.lt_or_ge j h1.length with b | b
      · rw [mput_at, mput_lt b] at q
        exact absurd q.symm (hD j b)
      · omega
  · rw [List.length_append]
    simp only [List.length_cons, List.length_nil]
    rcases Nat.lt_or_ge i h1.length with a | a
    · rw [List.getElem?_append_left a] at ei
      rw [mput_lt a]
      exact (s.hr.obj i o ei).mo (Fix.refl _) (fun i hi => mput_lt hi) (Nat.le_succ _) rfl
    · have hi : i = h1.length := by
        have := (List.getElem?_eq_some_iff.mp ei).1
        rw [List.length_append] at this
        simp only [List.length_cons, List.length_nil] at this
        omega
      subst hi
      rw [List.getElem?_append_right (Nat.le_refl _), Nat.sub_self] at ei
      cases ei
      rw [mput_at]
      exact ⟨vs, e, r.mo (Fix.refl _) (fun i hi => mput_lt hi) (Nat.le_succ _)⟩
  · rw [List.length_append] at hl
    simp only [List.length_cons, List.length_nil] at hl
    rcases Nat.lt_or_ge i h1.length with a | a
    · rw [mput_lt a]
      exact s.nw i hi a
    · have : i = h1.length := by omega
      subst this
      rw [mput_at]
      exact h0
theorem Stp.apart {m2 : Nat → Addr} {h2 : MH} {H2 : Hp} (hD : ∀ i, i < h1.length → m1 i ≠ D) (e : H1 D ≠ none) (s : Stp K F T m1 h1.length H1 m2 h2 H2) : ∀ i, i < h2.length → m2 i ≠ D := fun i hi => by
  rcases Nat.lt_or_ge i h1.length with a | a
  · rw [s.mx i a]
    exact hD i a
  · intro z
    have := s.nw i a hi
    rw [z] at this
    exact e this
end
/-! ### a comprehension's own names -/
inductive CT where
  | one (i : Nat) | many (is : List Nat)
def CT.slots : CT → List Nat
  | .one i => [i]
  | .many is => is
def setsM : List Nat → List MV → ME → ME
  | i :: is, x :: xs, μ => setsM is xs (μ.set i (some x))
  | _, _, μ => μ
def setsV : List Nat → List V → L2.St → L2.St
  | i :: is, x :: xs, σ => setsV is xs (σ.set i (some x))
  | _, _, σ => σ
def bindM (h : MH) (c : CT) (v : MV) (μ : ME) : Option ME := match c with
  | .one i => some (μ.set i (some v))
  | .many is => match seqM h v with
    | some xs => if xs.length = is.length then some (setsM is xs μ) else none
    | _ => none
def gNs : List Nat → TGs
  | [] => gNil
  | i :: is => gCons (gName i) (gNs is)
def CT.tg (K : PySem.W.Frag) : CT → TG
  | .one i => gName i
  | .many is => fun v σ H Q => gTup K is.length (gNs is) v σ H Q ∨ gUnl K is.length (gNs is) v σ H Q
theorem gNs_run : ∀ {is : List Nat} {vs : List V} {σ : L2.St} {H : Hp} {Q : L2.St → Hp → Prop}, vs.length = is.length → Q (setsV is vs σ) H → gNs is vs σ H Q
  | [], [], _, _, _, _, q => ⟨rfl, q⟩
  | i :: is, v :: vs, σ, H, Q, e, q => ⟨v, vs, rfl, gNs_run (Nat.succ.inj e) q⟩
  | [], _ :: _, _, _, _, e, _ => by cases e
  | _ :: _, [], _, _, _, e, _ => by cases e
theorem wipe_set {σ : L2.St} {i : Nat} {x : Option V} : ∀ {vs : List Nat}, i ∈ vs → wipe (σ.set i x) vs = wipe σ vs
  | [], h => by cases h
  | v :: vs, h => by
    show (wipe (σ.set i x) vs).set v none = (wipe σ vs).set v none
    by_cases hi : i ∈ vs
    · rw [wipe_set hi]
    · rcases List.mem_cons.mp h with rfl | h
      · have e : ∀ {σ : L2.St} {y : Option V} {vs : List Nat}, i ∉ vs → wipe (σ.set i y) vs = (wipe σ vs).set i y := fun {σ y vs} => by
          induction vs with
          | nil => intro _; rfl
          | cons w ws ih =>
            intro hn
            show (wipe (σ.set i y) ws).set w none = ((wipe σ ws).set w none).set i y
            rw [ih (fun z => hn (List.mem_cons_of_mem _ z)), List.set_comm _ _ (fun z => hn (by rw [z]; exact List.mem_cons_self))]
        rw [e hi, List.set_set]
      · exact absurd h hi
theorem wipe_sets {own : List Nat} : ∀ {is : List Nat} {vs : List V} {σ : L2.St}, (∀ i ∈ is, i ∈ own) → wipe (setsV is vs σ) own = wipe σ own
  | [], _, _, _ => rfl
  | _ :: _, [], _, _ => rfl
  | i :: is, v :: vs, σ, h => by
    show wipe (setsV is vs (σ.set i (some v))) own = wipe σ own
    rw [wipe_sets (fun j hj => h j (List.mem_cons_of_mem _ hj)), wipe_set (h i List.mem_cons_self)]
theorem wipe_wipe {σ : L2.St} {own : List Nat} : wipe (wipe σ own) own = wipe σ own := by
  have e : ∀ {vs : List Nat} {σ : L2.St}, (∀ v ∈ vs, v ∈ own) → wipe (wipe σ vs) own = wipe σ own := fun {vs} => by
    induction vs with
    | nil => intro σ _; rfl
    | cons v vs ih =>
      intro σ h
      show wipe ((wipe σ vs).set v none) own = wipe σ own
      rw [wipe_set (h v List.mem_cons_self), ih fun w hw => h w (List.mem_cons_of_mem _ hw)]
  exact e fun _ h => h
section
variable {K : PySem.W.Frag} {F : Flds} {T : List (Addr × Str)} {O : Ot} {H : Hp} {m : Nat → Addr} {n : Nat} {μ : ME} {σ : L2.St}
theorem SR.sets : ∀ {is : List Nat} {xs : List MV} {vs : List V} {μ : ME} {σ : L2.St}, RVs K F H m n xs vs → SR K F O H m n μ σ → SR K F O H m n (setsM is xs μ) (setsV is vs σ)
  | [], _, _, _, _, _, s => s
  | _ :: _, [], _, _, _, r, s => by
    cases r
    exact s
  | i :: is, x :: xs, v :: vs, _, _, r, s => by
    cases r with
    | cons a b => exact SR.sets (is := is) b (s.set a i)
theorem SR.unset2 (s : SR K F O H m n μ σ) (i : Nat) : SR K F O H m n (μ.set i none) (σ.set i none) := by
  refine ⟨by rw [List.length_set, List.length_set]; exact s.len, fun j v e => ?_, s.out, s.imm⟩
  by_cases hj : i = j
  · subst hj
    have hl : i < μ.length := by
      have := (List.getElem?_eq_some_iff.mp e).1
      rwa [List.length_set] at this
    rw [List.getElem?_set_self hl] at e
    cases e
  · rw [List.getElem?_set_ne hj] at e
    obtain ⟨y, e1, e2⟩ := s.get j v e
    exact ⟨y, by rw [List.getElem?_set_ne hj]; exact e1, e2⟩
theorem SR.wipe (s : SR K F O H m n μ σ) : ∀ own : List Nat, SR K F O H m n (wipeM μ own) (wipe σ own)
  | [] => s
  | v :: vs => (SR.wipe s vs).unset2 v
end
theorem R.bind_assoc {α β γ : Type} (x : R α) (f : α → MH → R β) (g : β → MH → R γ) : (x.bind f).bind g = x.bind fun a h => (f a h).bind g := by
  cases x <;> rfl
def R.noexc {α : Type} : R α → R α
  | .exc _ _ _ => .bad
  | r => r
def yesT : TF := fun _ h => .ok true h
def lcLoop (mi : MI) (c : CT) (t : TF) (e : EF) : Nat → Nat → ME → MH → List MV → R (List MV)
  | 0, _, _, _, _ => .bad
  | f + 1, k, μ, h, acc => match mi k h with
    | none => .bad
    | some none => .ok acc h
    | some (some v) => match bindM h c v μ with
      | none => .bad
      | some μ1 => (t μ1 h).noexc.bind fun b h1 => if b then (e μ1 h1).noexc.bind fun y h2 => if acc.length < LIM then lcLoop mi c t e f (k + 1) μ h2 (acc ++ [y]) else .bad else lcLoop mi c t e f (k + 1) μ h1 acc
def lcE (md : Bool) (it : IF) (c : CT) (t : TF) (e : EF) (own : List Nat) : EF := fun μ h => (it μ h).bind fun mi h1 => (lcLoop mi c t e FUEL 0 (wipeM μ own) h1 []).bind fun acc h2 => mkL md acc h2
abbrev W0 : WX := fun _ _ _ _ => False
section
variable {K : PySem.W.Frag} {F : Flds} {T : List (Addr × Str)} {O : Ot} {α β γ δ : Type} {rl : Rel α β} {rl2 : Rel γ δ} {W : WX} {m m1 : Nat → Addr} {n : Nat} {h h1 : MH} {σ σ' : L2.St} {H H1 : Hp} {μ : ME}
theorem Po.noexc {Q : β → Hp → Prop} {r : R α} (p : Po K F T rl W m n σ H Q r.noexc) : Po K F T rl W0 m n σ' H Q r := by
  cases r with
  | ok a h => exact p
  | exc C vs h => exact p.elim
  | bad => exact p.elim
/-- .. in a block: other slots, no error leaves -/
theorem tG.blk {m0 : Nat → Addr} {n0 : Nat} {H0 : Hp} {f : ME → MH → R α} {g : α → MH → R γ} {Q : δ → Hp → Prop} {Q' : β → Hp → Prop} (s : SR K F O H m h.length μ σ') (r : HR K F T m h H) (p : Po K F T rl2 W m0 n0 σ H0 Q ((f μ h).noexc.bind g))
    (k : ∀ a b m1 h1 H1, SR K F O H1 m1 h1.length μ σ' → HR K F T m1 h1 H1 → Stp K F T m h.length H m1 h1 H1 → rl H1 m1 h1.length a b → Po K F T rl2 W m0 n0 σ H0 Q (g a h1) → Q' b H1) : tG K F T O rl W0 f σ' H Q' := by
  refine ⟨m, h, μ, s, r, ?_⟩
  generalize f μ h = x at p ⊢
  cases x with
  | ok a h' => exact fun m' H' b st q => k a b m' h' H' (s.st st) st.hr st q p
  | exc C vs h' => exact p.elim
  | bad => exact p.elim
end
section
variable {X : Cx} {F : Flds} {T : List (Addr × Str)} {O : Ot} {W : WX} {elt tg iter : Expr} {ifs : List Expr} {scope : Scope} {own : List (Str × Nat)} {it : IF} {c : CT} {t : TF} {e : EF} {pos : Pos}
theorem lc_ok {md : Bool} {σ : L2.St} {H : Hp} {Q : VK} (hown : ∀ i ∈ c.slots, i ∈ own.map (·.2)) (w : tE X.K F T O W (lcE md it c t e (own.map (·.2))) σ H Q) : tLc (tI X.K F T O W it) (c.tg X.K) (tT X.K F T O W0 t) (tE X.K F T O W0 e) (own.map (·.2)) σ H (lkQ Q) := by
  obtain ⟨m, h, μ, s, hr, p⟩ := w
  refine tG.seq s hr p fun mi J m1 h1 H1 s1 r1 st1 q1 p1 => fun D hD => ?_
  let P : Nat → Nat → Hp → Prop := fun i f H' => ∃ m h acc vs, Stp X.K F T m1 h1.length H1 m h H' ∧ (∀ i, i < h.length → m i ≠ D) ∧ H' D = some (.lst vs) ∧ RVs X.K F H' m h.length acc vs ∧
    Po X.K F T (rlE X.K F) W m1 h1.length σ H1 Q ((lcLoop mi c t e f i (wipeM μ (own.map (·.2))) h acc).bind fun acc h2 => mkL md acc h2)
  have stD : Stp X.K F T m1 h1.length H1 m1 h1 (upd H1 D (.lst [])) := r1.aux hD
  refine ⟨P, ⟨FUEL, m1, h1, [], [], stD, fun i hi z => r1.live hi (by rw [z]; exact hD), upd_same, .nil, p1⟩, ?_⟩
  rintro i f H' ⟨m2, h2, acc, vs, st2, hnD, eD, ra, p2⟩
  cases f with
  | zero => exact p2.elim
  | succ f =>
    unfold lcLoop at p2
    obtain ⟨q3, q4⟩ := q1 m2 h2 H' st2 i
    split at p2
    · exact p2.elim
    · rename_i ek
      refine .inl ⟨q4 ek, ?_⟩
      cases md with
      | true =>
        have fin := p2 _ _ (.ref (mput m2 h2.length D h2.length)) (Stp.adopt st2 hD hnD eD ra) (.ref (by rw [List.length_append]; exact Nat.lt_succ_self _))
        rw [mput_at] at fin
        exact .inl fin
      | false =>
        refine .inr ⟨D, _, rfl, eD, trivial, fun od => ?_⟩
        have st4 : Stp X.K F T m1 h1.length H1 m2 h2 (upd H' D (.frz od (.lst vs))) := Stp.ext st2 hD hnD eD (fun z => z) (fun ps z => by cases z)
        exact p2 _ _ _ st4 (.lst upd_same (ra.mo (Fix.set eD fun z => z) (fun _ _ => rfl) (Nat.le_refl _)))
    · rename_i v ek
      obtain ⟨q5, q6⟩ := q3 v ek
      refine .inr ⟨q5, P (i + 1) f, fun H3 z => ⟨f, Nat.lt_succ_self _, z⟩, fun x H3 y => ?_⟩
      obtain ⟨st3, rx⟩ := q6 x H3 y
      split at p2
      · exact p2.elim
      · rename_i μ1 eb
        rw [R.bind_assoc] at p2
        have s2 : SR X.K F O H3 m2 h2.length (wipeM μ (own.map (·.2))) (wipe σ (own.map (·.2))) := (((s1.st st2).st st3).wipe _)
        have fin : ∀ σ1 : L2.St, SR X.K F O H3 m2 h2.length μ1 σ1 → tT X.K F T O W0 t σ1 H3 fun b H4 => if b = true then tE X.K F T O W0 e σ1 H4 fun y H5 => ∃ acc, H5 D = some (.lst acc) ∧ acc.length < sizeLine ∧ P (i + 1) f (upd H5 D (.lst (acc ++ [y]))) else P (i + 1) f H4 := fun σ1 s3 => by
          refine tG.blk s3 st3.hr p2 fun b b' m4 h4 H4 s4 r4 st4 q4 p4 => ?_
          cases q4
          have eD3 : H3 D = some (.lst vs) := st3.ot D _ eD hnD fun ps z => by cases z
          have hnD3 := hnD
          have eD4 : H4 D = some (.lst vs) := st4.ot D _ eD3 hnD fun ps z => by cases z
          have hnD4 := Stp.apart hnD (by rw [eD3]; exact fun z => nomatch z) st4
          cases b with
          | true =>
            rw [if_pos rfl, R.bind_assoc] at p4
            refine tG.blk s4 r4 p4 fun y yv m5 h5 H5 s5 r5 st5 q5 p5 => ?_
            have eD5 : H5 D = some (.lst vs) := st5.ot D _ eD4 hnD4 fun ps z => by cases z
            have hnD5 := Stp.apart hnD4 (by rw [eD4]; exact fun z => nomatch z) st5
            split at p5
            · rename_i hl
              have ra5 := ((ra.st st3).st st4).st st5
              refine ⟨vs, eD5, by rw [ra5.length]; exact lim_lt hl, m5, h5, acc ++ [y], vs ++ [yv], Stp.ext ((st2.tr st3).tr (st4.tr st5)) hD hnD5 eD5 (fun z => z) (fun ps z => by cases z), hnD5, upd_same, ?_, p5⟩
              exact (ra5.app (.cons q5 .nil)).mo (Fix.set eD5 fun z => z) (fun _ _ => rfl) (Nat.le_refl _)
            · exact p5.elim
          | false => exact ⟨m4, h4, acc, vs, (st2.tr st3).tr st4, hnD4, eD4, (ra.st st3).st st4, p4⟩
        cases c with
        | one j =>
          cases eb
          refine ⟨?_, fin _ (s2.set rx j)⟩
          rw [wipe_set (hown j (by simp [CT.slots])), wipe_wipe]
        | many is =>
          have eb' : (match seqM h2 v with
            | some xs => if xs.length = is.length then some (setsM is xs (wipeM μ (own.map (·.2)))) else none
            | _ => none) = some μ1 := eb
          split at eb'
          · rename_i xs ex
            split at eb'
            · rename_i hl
              cases eb'
              obtain ⟨a, vs', e1, e2, e3⟩ := seqM_ok st3.hr rx ex
              rcases e2 with e2 | e2
              · exact .inr ⟨a, vs', e1, e2, by rw [e3.length]; exact hl, gNs_run (by rw [e3.length]; exact hl) ⟨(wipe_sets hown).trans wipe_wipe, fin _ (s2.sets e3)⟩⟩
              · exact .inl ⟨a, vs', e1, e2, by rw [e3.length]; exact hl, gNs_run (by rw [e3.length]; exact hl) ⟨(wipe_sets hown).trans wipe_wipe, fin _ (s2.sets e3)⟩⟩
            · cases eb'
          · cases eb'
end
end M

set_option Elab.async false
set_option linter.all false
set_option maxRecDepth 100000
set_option maxHeartbeats 4000000
/-! calls of the module's defs and classes -/
namespace M
open PySem PySem.Spec PyProof.Rows L2 DL
/-- items by their places -/
def pickL {α : Type} (l : List α) : List Nat → List α
  | [] => []
  | i :: is => match l[i]? with
    | some x => x :: pickL l is
    | none => pickL l is
theorem pick_vals {vs : List V} {us : List Value} (r : Vals vs us) : ∀ is, Vals (pickL vs is) (pickL us is)
  | [] => .nil
  | i :: is => by
    unfold pickL
    cases e : vs[i]? with
    | some x =>
      obtain ⟨u, e1, e2⟩ := r.get e
      rw [e1]
      exact .cons e2 (pick_vals r is)
    | none =>
      rw [r.none_of e]
      exact pick_vals r is
section
variable {K : PySem.W.Frag} {F : Flds} {T : List (Addr × Str)} {O : Ot} {H : Hp} {m : Nat → Addr} {n : Nat}
theorem pick_rvs {xs : List MV} {vs : List V} (r : RVs K F H m n xs vs) : ∀ is, RVs K F H m n (pickL xs is) (pickL vs is)
  | [] => .nil
  | i :: is => by
    unfold pickL
    cases e : xs[i]? with
    | some x =>
      obtain ⟨u, e1, e2⟩ := r.get e
      rw [e1]
      exact .cons e2 (pick_rvs r is)
    | none =>
      have : vs[i]? = none := List.getElem?_eq_none_iff.mpr (by rw [r.length]; exact List.getElem?_eq_none_iff.mp e)
      rw [this]
      exact pick_rvs r is
end
/-- what a def is to keep, by the machine -/
def spM (K : PySem.W.Frag) (F : Flds) (T : List (Addr × Str)) (n : Nat) (o : LF) : Sp := fun vs H Q E => vs.length = n ∧ ∃ (m : Nat → Addr) (h : MH) (xs : List MV), HR K F T m h H ∧ RVs K F H m h.length xs vs ∧ Po K F T (rlE K F) (fun c d _ H => E c d H) m h.length [] H Q (o xs h)
/-- a def, with or without repr in it -/
def FnM (g : Bool) (P : Program) (w : World) (K : PySem.W.Frag) (mg : Str → Option Value) (base : Heap) (k : Nat) (f : Addr) (fd : FuncData) (ps : List Str) (sp : Sp) : Prop := match g with
  | true => FnG P w K mg base (L2.CX P w) k f fd ps sp
  | false => FnOk P w K mg base (L2.CX P w) k f fd ps sp
section
variable {g : Bool} {P : Program} {w : World} {K : PySem.W.Frag} {mg : Str → Option Value} {base : Heap} {k j : Nat} {f : Addr} {fd : FuncData} {ps : List Str} {sp : Sp}
theorem FnM.len (F : FnM g P w K mg base k f fd ps sp) : ∀ vs H Q E, sp vs H Q E → vs.length = ps.length := by
  cases g with
  | true => exact FnG.len F
  | false => exact FnOk.len F
theorem FnM.run (F : FnM g P w K mg base k f fd ps sp) : ∀ (A : Around) (outer : List Env) (s : Shared) (H : Hp) (args : Args) (us : List Value) (vs : List V) (Q : VK) (E : XK), (g = true → A.guards = some []) → Room k A → Env0 P w K mg base A outer s H → BindsTo s fd args (ps.zip us) → Vals vs us → sp vs H Q E →
    codeAny (model P w) A (.call (.ref f) args) (CR (L2.CX P w) outer P w H s Q E) s := by
  cases g with
  | true => exact fun A outer s H args us vs Q E hg => FnG.run F A outer s H args us vs Q E (hg rfl)
  | false => exact fun A outer s H args us vs Q E _ => FnOk.run F A outer s H args us vs Q E
theorem FnM.mono (F : FnM g P w K mg base j f fd ps sp) (h : j ≤ k) : FnM g P w K mg base k f fd ps sp := by
  cases g with
  | true => exact FnG.mono F h
  | false => exact FnOk.mono F h
end
/-! what a call has made and nobody holds is forgotten -/
def gcR (n : Nat) : R MV → R MV
  | .ok v h => if h.length ≤ n then .ok v h else if rb n v && (h.take n).all (rbO n) then .ok v (h.take n) else .ok v h
  | .exc C vs h => if h.length ≤ n then .exc C vs h else if rbs n vs && (h.take n).all (rbO n) then .exc C vs (h.take n) else .exc C vs h
  | .bad => .bad
def gc (o : LF) : LF := fun xs h => gcR h.length (o xs h)
theorem Po.gc {K : PySem.W.Frag} {F : Flds} {T : List (Addr × Str)} {W : WX} {σ : L2.St} {m : Nat → Addr} {n : Nat} {H : Hp} {Q : VK} {r : R MV} (p : Po K F T (rlE K F) W m n σ H Q (gcR n r)) : Po K F T (rlE K F) W m n σ H Q r := by
  cases r with
  | ok v h =>
    unfold gcR at p
    dsimp only at p
    split at p
    · exact p
    · rename_i hl
      split at p
      · rename_i hc
        rw [Bool.and_eq_true] at hc
        intro m' H' b st rv
        have ln : (h.take n).length = n := by rw [List.length_take]; omega
        have st2 := st.cut (Nat.le_refl _) (by omega) hc.2
        exact p m' H' b st2 (by rw [ln]; exact RV.rb rv hc.1)
      · exact p
  | exc C vs h =>
    unfold gcR at p
    dsimp only at p
    split at p
    · exact p
    · rename_i hl
      split at p
      · rename_i hc
        rw [Bool.and_eq_true] at hc
        intro m' H' d ws st hd rv
        have ln : (h.take n).length = n := by rw [List.length_take]; omega
        have st2 := st.cut (Nat.le_refl _) (by omega) hc.2
        exact p m' H' d ws st2 hd (by rw [ln]; exact RVs.rb rv hc.1)
      · exact p
  | bad => exact p
/-- a value that may be called: with so many values by place, and by these names -/
def CalV (X : Cx) (F : Flds) (T : List (Addr × Str)) (W : WX) (v : Value) (n : Nat) (ks : List Str) (o : LF) : Prop := ∀ (pins : List (Addr × Obj)) (s : Shared) (σ : L2.St) (H : Hp) (us ws : List Value) (vs zs : List V) (Q : VK), L2.Inv X pins σ H s → Vals vs us → Vals zs ws → vs.length = n → zs.length = ks.length →
  (∃ (m : Nat → Addr) (h : MH) (xs : List MV), HR X.K F T m h H ∧ RVs X.K F H m h.length xs (vs ++ zs) ∧ Po X.K F T (rlE X.K F) W m h.length σ H Q (o xs h)) → wpAny (model X.prog X.w) X.A (call v us (ks.zip ws)) (EP X pins σ Q) X.xe s
/-- the same in the machine: in the parameters' order, what is not told among them -/
def ordM (ix : List Nat) (ds : List MV) (o : LF) : LF := fun xs h => o (pickL (xs ++ ds) ix) h
section
variable {X : Cx} {F : Flds} {T : List (Addr × Str)} {O : Ot} {W : WX} {k n : Nat} {f C : Addr} {fd : FuncData} {ps ks : List Str} {ix : List Nat} {ds : List MV} {dvs : List V} {its : List Value} {o : LF} {g : Bool}
/-- the constants among the parameters stand for what they are -/
def CstOk (ds : List MV) (dvs : List V) : Prop := ∀ K F H m n, RVs K F H m n ds dvs
theorem calV_def (hF : FnM g X.prog X.w X.K X.mg X.base k f fd ps (spM X.K F T ps.length o)) (hgu : g = true → X.A.guards = some []) (hr : Room k X.A) (tk : Takes X W) (hd : Vals dvs its) (hc : CstOk ds dvs)
    (hb : ∀ (s : Shared) (us ws : List Value), X.K.In s.heap → us.length = n → ws.length = ks.length → BindsTo s fd ⟨us, ks.zip ws⟩ (ps.zip (pickL (us ++ ws ++ its) ix)))
    (hl : ∀ l : List V, l.length = n + ks.length + dvs.length → (pickL l ix).length = ps.length) : CalV X F T W (.ref f) n ks (ordM ix ds o) := by
  intro pins s σ H us ws vs zs Q I ru rz ln lk ⟨m, h, xs, hr1, rx, p⟩
  have rr : Vals (pickL (vs ++ zs ++ dvs) ix) (pickL (us ++ ws ++ its) ix) := pick_vals ((ru.append rz).append hd) ix
  have hq : spM X.K F T ps.length o (pickL (vs ++ zs ++ dvs) ix) H Q (WE W σ) := by
    refine ⟨hl _ (by rw [List.length_append, List.length_append, ln, lk]), m, h, _, hr1, pick_rvs (rx.app (hc _ _ _ _ _)) ix, ?_⟩
    unfold ordM at p
    generalize o (pickL (xs ++ ds) ix) h = r at p ⊢
    cases r with
    | ok a h' => exact p
    | exc C vs h' => exact p
    | bad => exact p
  refine wpAny_call (codeAny_mono (hF.run X.A X.stack s H ⟨us, ks.zip ws⟩ _ _ Q (WE W σ) hgu hr I.env0 (hb s us ws I.kIn (by rw [← ru.length]; exact ln) (by rw [← rz.length]; exact lk)) rr hq) fun r s' hq => ?_)
  cases r with
  | error e => exact passAt tk σ pins H s e s' I hq
  | ok fl =>
    cases fl with
    | ret u => exact I.after hq
    | next => exact False.elim hq
    | brk => exact False.elim hq
    | cont => exact False.elim hq
/-- a class: its __init__ at a new instance; one that has all its fields is a value -/
def doneM (F : Flds) (C : Str) (i : Nat) (h : MH) : R MV := match h[i]? with
  | some (.ins D fs) => if D = C ∧ F C ≠ [] ∧ fs.map (·.1) = F C then .ok (.ins C (fs.map (·.2))) (h.set i .dead) else .ok (.ref i) h
  | _ => .ok (.ref i) h
def makeM (F : Flds) (C : Str) (o : LF) : LF := fun xs h => match o (.ref h.length :: xs) (h ++ [.ins C []]) with
  | .ok .non h' => doneM F C h.length h'
  | .ok _ _ => .bad
  | .exc D vs h' => .exc D vs h'
  | .bad => .bad
theorem HR.kill {i : Nat} {m : Nat → Addr} {h : MH} {H : Hp} (r : HR X.K F T m h H) (hi : i < h.length) : Stp X.K F T m h.length H m (h.set i .dead) H := by
  refine ⟨by rw [List.length_set]; exact Nat.le_refl _, fun _ _ => rfl, Fix.refl _, ⟨by rw [List.length_set]; exact r.inj, fun j x e => ?_, r.tabs⟩, fun _ z => z, fun j a b => absurd (Nat.lt_of_lt_of_le (by rwa [List.length_set] at b) a) (Nat.lt_irrefl _), fun _ _ e _ _ => e⟩
  rw [List.length_set]
  by_cases hj : j = i
  · subst hj
    rw [List.getElem?_set_self hi] at e
    cases e
    exact (r.obj j h[j] (List.getElem?_eq_getElem hi)).live
  · rw [List.getElem?_set_ne (Ne.symm hj)] at e
    exact r.obj j x e
theorem doneM_ok {W : WX} {σ : L2.St} {m m' : Nat → Addr} {n i : Nat} {h : MH} {H H' : Hp} {Q : VK} {C : Str} {v : V} (st : Stp X.K F T m n H m' h H') (rv : RV X.K F H' m' h.length (.ref i) v) (p : Po X.K F T (rlE X.K F) W m n σ H Q (doneM F C i h)) : Q v H' := by
  unfold doneM at p
  split at p
  · rename_i D fs e
    split at p
    · rename_i hc
      obtain ⟨rfl, hc2, hc3⟩ := hc
      have hi : i < h.length := (List.getElem?_eq_some_iff.mp e).1
      have st2 := st.hr.kill hi
      refine p m' H' v (st.tr st2) ?_
      cases rv with
      | ref _ =>
        obtain ⟨dx, ws, e1, e2, e3⟩ := st.hr.obj i _ e
        exact (RV.ins e1 hc2 (e2.trans hc3) e3).st st2
    · exact p m' H' v st rv
  · exact p m' H' v st rv
theorem calV_make {x : Str} {f : Addr} (M : Mk X.K (He.ga X.K x) f) (hF : FnOk X.prog X.w X.K X.mg X.base (L2.CX X.prog X.w) k f fd ps (spM X.K F T ps.length o)) (hr : Room (k + 1) X.A) (tk : Takes X W) (hd : Vals dvs its) (hc : CstOk ds dvs)
    (hb : ∀ (s : Shared) (us ws : List Value), X.K.In s.heap → us.length = n + 1 → ws.length = ks.length → BindsTo s fd ⟨us, ks.zip ws⟩ (ps.zip (pickL (us ++ ws ++ its) ix)))
    (hl : ∀ l : List V, l.length = n + 1 + ks.length + dvs.length → (pickL l ix).length = ps.length) : CalV X F T W (.ref (He.ga X.K x)) n ks (gc (makeM F x (ordM ix ds o))) := by
  intro pins s σ H us ws vs zs Q I ru rz ln lk ⟨m, h, xs, hr1, rx, p⟩
  have n1 : H (s.heap.objs.size + 1) = none := I.hok.fresh (Nat.le_succ _)
  have n0 : H s.heap.objs.size = none := I.hok.fresh (Nat.le_refl _)
  have I2 := L2.Inv.made (C := He.ga X.K x) I
  have r1 : Vals (V.ref (s.heap.objs.size + 1) :: vs) (Value.ref (s.heap.objs.size + 1) :: us) := .cons rfl ru
  have rr : Vals (pickL (V.ref (s.heap.objs.size + 1) :: vs ++ zs ++ dvs) ix) (pickL (Value.ref (s.heap.objs.size + 1) :: us ++ ws ++ its) ix) := pick_vals ((r1.append rz).append hd) ix
  have st1 : Stp X.K F T m h.length H m h (upd H s.heap.objs.size (.own (s.heap.objs.size + 1))) := hr1.aux n0
  have n1' : upd H s.heap.objs.size (.own (s.heap.objs.size + 1)) (s.heap.objs.size + 1) = none := by rw [upd_ne (Nat.succ_ne_self _)]; exact n1
  have st2 := st1.hr.new (u := .ins (He.ga X.K x) s.heap.objs.size []) (o := .ins x []) n1' ⟨s.heap.objs.size, [], upd_same, rfl, .nil⟩
  have st := st1.tr st2
  have rs : RV X.K F (upd (upd H s.heap.objs.size (.own (s.heap.objs.size + 1))) (s.heap.objs.size + 1) (.ins (He.ga X.K x) s.heap.objs.size [])) (mput m h.length (s.heap.objs.size + 1)) (h ++ [MO.ins x []]).length (.ref h.length) (.ref (s.heap.objs.size + 1)) := by
    have := RV.ref (K := X.K) (F := F) (H := upd (upd H s.heap.objs.size (.own (s.heap.objs.size + 1))) (s.heap.objs.size + 1) (.ins (He.ga X.K x) s.heap.objs.size [])) (m := mput m h.length (s.heap.objs.size + 1)) (n := (h ++ [MO.ins x []]).length) (i := h.length) (by rw [List.length_append]; exact Nat.lt_succ_self _)
    rwa [mput_at] at this
  have hq : spM X.K F T ps.length o (pickL (V.ref (s.heap.objs.size + 1) :: vs ++ zs ++ dvs) ix) (upd (upd H s.heap.objs.size (.own (s.heap.objs.size + 1))) (s.heap.objs.size + 1) (.ins (He.ga X.K x) s.heap.objs.size [])) (fun v H2 => v = .non ∧ Q (.ref (s.heap.objs.size + 1)) H2) (WE W σ) := by
    refine ⟨hl _ (by rw [List.length_append, List.length_append, List.length_cons, ln, lk]), _, _, _, st2.hr, pick_rvs (RVs.app (.cons rs (rx.st st)) (hc _ _ _ _ _)) ix, ?_⟩
    have p := Po.gc p
    unfold makeM ordM at p
    have p2 := p
    generalize o (pickL (MV.ref h.length :: xs ++ ds) ix) (h ++ [MO.ins x []]) = r at p2 ⊢
    cases r with
    | ok a h' =>
      cases a with
      | non =>
        intro m' H' b st3 q3
        cases q3
        exact ⟨rfl, doneM_ok (st.tr st3) (rs.st st3) p2⟩
      | _ => exact p2.elim
    | exc C vs h' => exact fun m' H' d ws st3 q r => p2 m' H' d ws (st.tr st3) q r
    | bad => exact p2
  refine wpAny_call (make_map (f := f) I.kIn M.makes M.init (beq_iff_eq.mp M.fn) (codeAny_mono (hF.run _ X.stack _ _ ⟨Value.ref (s.heap.objs.size + 1) :: us, ks.zip ws⟩ _ _ _ (WE W σ) (hr.make _ us (ks.zip ws))
    (I2.env0.make _ us (ks.zip ws)) (hb _ (Value.ref (s.heap.objs.size + 1) :: us) ws I2.kIn (by rw [← r1.length, List.length_cons, ln]) (by rw [← rz.length]; exact lk)) rr hq) fun r s' hq' => ?_))
  cases r with
  | error e => exact passAt tk σ pins _ _ e s' I2 hq'
  | ok fl =>
    cases fl with
    | ret u =>
      obtain ⟨v, H', I3, rv, ev, q3⟩ := I2.after hq'
      subst ev
      exact ⟨rv, ⟨V.ref (s.heap.objs.size + 1), H', I3, rfl, q3⟩⟩
    | next => exact False.elim hq'
    | brk => exact False.elim hq'
    | cont => exact False.elim hq'
end
section
variable {X : Cx} {F : Flds} {T : List (Addr × Str)} {O : Ot} {W : WX} {v : Value} {n : Nat} {ks : List Str} {o : LF} {x : Str} {p pos : Pos} {e : Expr} {es : List Expr} {kws : List Keyword} {la lk : AF}
def callKE (o : LF) (la lk : AF) : EF := fun μ h => (la μ h).bind fun xs h1 => (lk μ h1).bind fun ys h2 => o (xs ++ ys) h2
/-- an argument list's length, told by the machine -/
def lenA (n : Nat) (l : AF) : AF := fun μ h => (l μ h).bind fun xs h1 => if xs.length = n then .ok xs h1 else .bad
theorem PK.imp {X : Cx} {e : List Keyword} {t t' : TA} (h : PK X e t) (i : ∀ σ H Q, t' σ H Q → t σ H Q) : PK X e t' := ⟨fun pos pins s σ H Q I w => h.run pos pins s σ H Q I (i σ H Q w)⟩
theorem pa_lenM (h : PA X es (tA X.K F T O W la)) : PA X es (tA X.K F T O W (lenA n la)) := PA.imp h fun σ H Q ⟨m, hh, μ, s, hr, p⟩ => tG.seq s hr p fun xs us m1 h1 H1 s1 r1 st1 q1 p1 => by
  split at p1
  · exact p1 m1 H1 us (Stp.refl r1) q1
  · exact p1.elim
theorem pk_nilM : PK X [] (tA X.K F T O W nilA) := PK.imp pk_nil fun σ H Q ⟨m, h, μ, s, hr, p⟩ => p m H [] (Stp.refl hr) .nil
theorem pk_consM {f : EF} {nm : Option Str} {kpos : Pos} (ha : PE X e (tE X.K F T O W f)) (hl : PK X kws (tA X.K F T O W la)) : PK X (⟨nm, e, kpos⟩ :: kws) (tA X.K F T O W (consA f la)) :=
  PK.imp (pk_cons ha hl) fun σ H Q ⟨m, h, μ, s, hr, p⟩ => tG.seq s hr p fun x u m1 h1 H1 s1 r1 st1 q1 p1 => tG.seq s1 r1 p1 fun xs us m2 h2 H2 s2 r2 st2 q2 p2 => p2 m2 H2 (u :: us) (Stp.refl r2) (.cons (q1.st st2) q2)
theorem lenA_ok {n : Nat} {l : AF} {μ : ME} {h h1 : MH} {xs : List MV} (e : lenA n l μ h = .ok xs h1) : xs.length = n := by
  unfold lenA at e
  generalize l μ h = r at e
  cases r with
  | ok a h2 =>
    have e' : (if a.length = n then R.ok a h2 else .bad) = .ok xs h1 := e
    split at e'
    · rename_i hl
      cases e'
      exact hl
    · cases e'
  | exc C vs h2 => cases e
  | bad => cases e
/-- f(e, ..) -/
theorem pe_calPM (hc : CalV X F T W v n [] o) (hg : Gl X x) (hm : X.mg x = some v) (hk : PySem.W.keepIn X.K v = true) (ha : PA X (e :: es) (tA X.K F T O W la)) (hdb : (x == ("__debug__" : Str)) = false) (he : starEach (e :: es) X.env = (false, eval e X.env) :: starEach es X.env) (hpl : (backTo pos (starEach es X.env)).any (·.1) = false) :
    PE X (.Call (.Name x p) (e :: es) [] pos) (tE X.K F T O W (callE o (lenA n la))) := by
  refine ⟨fun pins s σ H Q I ⟨m, h, μ, sr, hr, pp⟩ => ?_⟩
  refine wpAny_Call_Name_kw (ld_glob I hg hm ?_ hdb)
  have w : tA X.K F T O W (lenA n la) σ H fun us H1 => us.length = n ∧ ∃ (m : Nat → Addr) (h : MH) (xs : List MV), HR X.K F T m h H1 ∧ RVs X.K F H1 m h.length xs us ∧ Po X.K F T (rlE X.K F) W m h.length σ H1 Q (o xs h) := by
    refine ⟨m, h, μ, sr, hr, ?_⟩
    have pp' : Po X.K F T (rlE X.K F) W m h.length σ H Q ((lenA n la μ h).bind fun xs h1 => o xs h1) := pp
    generalize er : lenA n la μ h = r at pp' ⊢
    cases r with
    | ok a h' => exact fun m' H' b st q => ⟨by rw [q.length]; exact lenA_ok er, m', h', a, st.hr, q, Po.st st pp'⟩
    | exc C vs h' => exact pp'
    | bad => exact pp'
  refine PySem.W.callWith_K (h₀ := X.base) I.ok.mod.kin hk (thn ((pa_lenM ha).run pos pins s σ H _ I w) fun us s1 ⟨vs, H1, I1, r, ln, m1, h1, xs, hr1, rx, p1⟩ => ⟨I1.kIn, ?_⟩) he hpl
  exact hc pins s1 σ H1 us [] vs [] Q I1 r .nil ln rfl ⟨m1, h1, xs, hr1, by rw [List.append_nil]; exact rx, p1⟩
/-- f() -/
theorem pe_cal0M (hc : CalV X F T W v 0 [] o) (hg : Gl X x) (hm : X.mg x = some v) (hk : PySem.W.keepIn X.K v = true) (hdb : (x == ("__debug__" : Str)) = false) : PE X (.Call (.Name x p) [] [] pos) (tE X.K F T O W (callE o nilA)) := by
  refine ⟨fun pins s σ H Q I ⟨m, h, μ, sr, hr, pp⟩ => ?_⟩
  refine wpAny_Call_Name_kw (ld_glob I hg hm ?_ hdb)
  exact PySem.W.callWith_K0 I.kIn hk (hc pins s σ H [] [] [] [] Q I .nil .nil rfl rfl ⟨m, h, [], hr, .nil, pp⟩)
/-- f(k = e, ..) -/
theorem pe_calKM (hc : CalV X F T W v 0 ks o) (hg : Gl X x) (hm : X.mg x = some v) (hk : PySem.W.keepIn X.K v = true) (ha : PK X kws (tA X.K F T O W lk)) (hdb : (x == ("__debug__" : Str)) = false) (hall : (backToKw pos (keywordEach kws X.env)).all (·.1.isSome) = true)
    (hks : (backToKw pos (keywordEach kws X.env)).filterMap (·.1) = ks) (hpl : ((backTo pos (starEach [] X.env)).any (·.1) || (backToKw pos (keywordEach kws X.env)).any (·.1.isNone)) = false) : PE X (.Call (.Name x p) [] kws pos) (tE X.K F T O W (callE o (lenA ks.length lk))) := by
  refine ⟨fun pins s σ H Q I ⟨m, h, μ, sr, hr, pp⟩ => ?_⟩
  refine wpAny_Call_Name_kw (ld_glob I hg hm ?_ hdb)
  have w : tA X.K F T O W lk σ H fun us H1 => us.length = ks.length ∧ ∃ (m : Nat → Addr) (h : MH) (xs : List MV), HR X.K F T m h H1 ∧ RVs X.K F H1 m h.length xs us ∧ Po X.K F T (rlE X.K F) W m h.length σ H1 Q (o xs h) := by
    have pp' : Po X.K F T (rlE X.K F) W m h.length σ H Q ((lk μ h).bind fun xs h1 => (if xs.length = ks.length then R.ok xs h1 else .bad).bind fun xs h1 => o xs h1) := by
      rw [← R.bind_assoc]
      exact pp
    refine tG.seq sr hr pp' fun xs us m1 h1 H1 s1 r1 st1 q1 p1 => ?_
    split at p1
    · rename_i hl
      exact ⟨by rw [q1.length]; exact hl, m1, h1, xs, r1, q1, p1⟩
    · exact p1.elim
  refine PySem.W.callWith_KW0 (h₀ := X.base) I.ok.mod.kin hk hall (thn (ha.run pos pins s σ H _ I w) fun us s1 ⟨vs, H1, I1, r, ln, m1, h1, xs, hr1, rx, p1⟩ => ⟨I1.kIn, ?_⟩) hpl
  rw [hks]
  exact hc pins s1 σ H1 [] us [] vs Q I1 .nil r rfl ln ⟨m1, h1, xs, hr1, rx, p1⟩
end
end M

set_option Elab.async false
set_option linter.all false
set_option maxRecDepth 100000
set_option maxHeartbeats 4000000
/-! tables of a program; attributes, isinstance, raise, own ==, methods of lists -/
namespace M
open PySem PySem.Spec PyProof.Rows L2 DL
theorem HR.ex {K : PySem.W.Frag} {F : Flds} {T : List (Addr × Str)} {m : Nat → Addr} {h : MH} {H H' : Hp} (r : HR K F T m h H) (e : Ex H H') : Stp K F T m h.length H m h H' := by
  have fx : Fix K F H H' := fun a o x _ => e a o x
  refine ⟨Nat.le_refl _, fun _ _ => rfl, fx, ⟨r.inj, fun i o q => (r.obj i o q).mo fx (fun _ _ => rfl) (Nat.le_refl _) ?_, LamX.Tabs.ext r.tabs e⟩, fun a z y => ?_, fun i a b => absurd (Nat.lt_of_lt_of_le b a) (Nat.lt_irrefl _), fun a o x _ _ => e a o x⟩
  · obtain ⟨u, hu, _⟩ := (r.obj i o q).live
    rw [hu, e _ _ hu]
  · cases q : H a with
    | none => exact z q
    | some o =>
      have := e _ _ q
      rw [y] at this
      cases this
/-! ### raise -/
def rzS (C : Str) (f : EF) : SF := fun μ h => (f μ h).st μ fun v h1 => .exc C [v] μ h1
section
variable {X : Cx} {F : Flds} {T : List (Addr × Str)} {O : Ot} {W : WX} {e : Expr} {f : EF} {x fl : Str} {p pos pos2 : Pos} {k : Nat}
theorem ps_rzM (hc : X.calm = true) (Tc : XCls X.prog X.w X.K X.mg X.base x fl (He.ga X.K x)) (hF : F x = [fl]) (hr : Room k X.A) (hk : 2 ≤ k) (tk : Takes X W) (he : PE X e (tE X.K F T O W f)) (hg : Gl X x) (hdb : (x == ("__debug__" : Str)) = false)
    (hs : starEach (e :: []) X.env = (false, eval e X.env) :: starEach [] X.env) (hpl : (backTo pos (starEach [] X.env)).any (·.1) = false) : PS X (.Raise (some (.Call (.Name x p) [e] [] pos)) none pos2) (tS X.K F T O W (rzS x f)) :=
  PS.imp (ps_rz hc Tc hr hk tk he hg hdb hs hpl) fun D σ H ⟨m, h, μ, s, hr, p⟩ => PoS.ex s hr p fun v u m1 h1 H1 s1 r1 st1 q1 p1 => fun d H' ex n a => by
    have st := r1.ex ex
    exact p1 m1 H' d [u] σ st (s1.st st) (by rw [hF]; exact a) (.cons (q1.st st) .nil)
end
/-! ### attributes -/
/-- what a class of instances must say -/
structure ClsI (K : PySem.W.Frag) (x : Str) (fs : List Str) : Prop where
  cl : Cls K (He.ga K x)
  no : ∀ f ∈ fs, NoAttr K (He.ga K x) f
  ha : PySem.W.findIn K (.ref (He.ga K x)) "__class__" = some (some (.builtin "object.__class__"))
  hn : PySem.W.specialIn K (.builtin "object.__class__") "__get__" = some (some (.builtin "getset_descriptor.__get__"))
  ht : PySem.W.takesIn K (.builtin "object.__class__") = some true
  hm : PySem.W.mroIn K (He.ga K x) (.type "object") = some true
/-- what a class of errors must say -/
structure ErrI (K : PySem.W.Frag) (x : Str) (fs : List Str) : Prop where
  xc : XcC K (He.ga K x)
  no : ∀ f ∈ fs, PySem.W.findIn K (.ref (He.ga K x)) f = some none
abbrev InsT := List (Str × List Str)
def hasF (t : InsT) (C f : Str) : Bool := t.any fun p => p.1 == C && p.2.contains f
def fldM (t te : InsT) (F : Flds) (f : Str) : MV → MH → R MV
  | .ref i, h => match h[i]? with
    | some (.ins C fs) => if hasF t C f then match fs.lookup f with
        | some v => .ok v h
        | none => .bad
      else .bad
    | _ => .bad
  | .exc C vs, h => if hasF te C f then match ((F C).zip vs).lookup f with
      | some v => .ok v h
      | none => .bad
    else .bad
  | .ins C vs, h => if hasF t C f then match ((F C).zip vs).lookup f with
      | some v => .ok v h
      | none => .bad
    else .bad
  | _, _ => .bad
theorem zip_self {α β : Type} : ∀ ws : List (α × β), (ws.map (·.1)).zip (ws.map (·.2)) = ws
  | [] => rfl
  | w :: ws => by
    rw [List.map_cons, List.map_cons, List.zip_cons_cons, zip_self ws]
theorem hasF_of {t : InsT} {C f : Str} (h : hasF t C f = true) : ∃ fs, (C, fs) ∈ t ∧ f ∈ fs := by
  unfold hasF at h
  obtain ⟨p, hp, e⟩ := List.any_eq_true.mp h
  rw [Bool.and_eq_true] at e
  exact ⟨p.2, by rw [← eq_of_beq e.1]; exact hp, List.contains_iff_mem.mp e.2⟩
section
variable {K : PySem.W.Frag} {F : Flds} {H : Hp} {m : Nat → Addr} {n : Nat}
theorem look_rvs : ∀ {ks : List Str} {fs : List (Str × MV)} {ws : List (Str × V)} {f : Str} {x : MV}, ws.map (·.1) = fs.map (·.1) → RVs K F H m n (fs.map (·.2)) (ws.map (·.2)) → fs.lookup f = some x → ∃ v, ws.lookup f = some v ∧ RV K F H m n x v
  | _, [], _, _, _, _, _, e => by cases e
  | ks, (g, y) :: fs, [], _, _, e, _, _ => by cases e
  | ks, (g, y) :: fs, (g', v) :: ws, f, x, e, r, l => by
    have e1 : g' = g := (List.cons.inj e).1
    have e2 := (List.cons.inj e).2
    subst e1
    cases r with
    | cons r1 r2 =>
      rw [List.lookup_cons] at l ⊢
      by_cases hf : (f == g') = true
      · rw [hf] at l ⊢
        cases l
        exact ⟨v, rfl, r1⟩
      · have hf' : (f == g') = false := by simpa using hf
        rw [hf'] at l ⊢
        exact look_rvs (ks := ks) e2 r2 l
theorem look_zip : ∀ {ns : List Str} {xs : List MV} {vs : List V} {f : Str} {x : MV}, RVs K F H m n xs vs → (ns.zip xs).lookup f = some x → ∃ v, (ns.zip vs).lookup f = some v ∧ RV K F H m n x v
  | [], _, _, _, _, _, e => by cases e
  | _ :: _, [], _, _, _, _, e => by cases e
  | g :: ns, y :: xs, v :: vs, f, x, r, l => by
    cases r with
    | cons r1 r2 =>
      rw [List.zip_cons_cons, List.lookup_cons] at l ⊢
      by_cases hf : (f == g) = true
      · rw [hf] at l ⊢
        cases l
        exact ⟨v, rfl, r1⟩
      · have hf' : (f == g) = false := by simpa using hf
        rw [hf'] at l ⊢
        exact look_zip r2 l
  | _ :: _, _ :: _, [], _, _, r, _ => by cases r
end
theorem PE.or {X : Cx} {e : Expr} {t t' : TE} (a : PE X e t) (b : PE X e t') : PE X e (fun σ H Q => t σ H Q ∨ t' σ H Q) := ⟨fun pins s σ H Q I w => w.elim (a.run pins s σ H Q I) (b.run pins s σ H Q I)⟩
section
variable {X : Cx} {F : Flds} {T : List (Addr × Str)} {O : Ot} {W : WX} {e : Expr} {f : EF} {fl : Str} {p pos pos2 : Pos} {t te : InsT}
def isExc : R MV → Bool
  | .ok (.exc _ _) _ => true
  | _ => false
theorem pe_fldM (hI : ∀ C f, hasF t C f = true → ClsI X.K C [f]) (hE : ∀ C f, hasF te C f = true → ErrI X.K C [f]) (he : PE X e (tE X.K F T O W f)) (hb : attributeBase e fl X.env (eval e X.env) = eval e X.env) : PE X (.Attribute e fl pos) (tE X.K F T O W (unE (fldM t te F fl) f)) :=
  PE.imp (PE.or (pe_fld he hb) (pe_xcf he hb)) fun σ H Q ⟨m, h, μ, s, hr, p⟩ => by
    by_cases hx : isExc (f μ h) = true
    · refine .inr (tG.seqE s hr p fun x u m1 h1 H1 ex s1 r1 st1 q1 p1 => ?_)
      rw [ex] at hx
      cases q1 with
      | exc g1 g2 g3 g4 =>
        unfold fldM at p1
        dsimp only at p1
        split at p1
        · rename_i hf
          split at p1
          · rename_i v ev
            obtain ⟨w, e1, e2⟩ := look_zip g4 ev
            have E := hE _ _ hf
            exact ⟨_, _, _, _, w, rfl, g1, g2, E.xc, E.no _ List.mem_cons_self, by rw [g3]; exact e1, p1.v r1 e2⟩
          · exact p1.elim
        · exact p1.elim
      | _ => cases hx
    · refine .inl (tG.seqE s hr p fun x u m1 h1 H1 ex s1 r1 st1 q1 p1 => ?_)
      rw [ex] at hx
      cases q1 with
      | exc => exact absurd rfl hx
      | @ins C vs ws a dx g1 g2 g3 g4 =>
        unfold fldM at p1
        dsimp only at p1
        split at p1
        · rename_i hf
          split at p1
          · rename_i v ev
            obtain ⟨w, e4, e5⟩ := look_zip g4 ev
            rw [← g3, zip_self] at e4
            have I := hI _ _ hf
            exact ⟨_, _, _, _, w, rfl, g1, I.cl, I.no _ List.mem_cons_self, e4, p1.v r1 e5⟩
          · exact p1.elim
        · exact p1.elim
      | ref hi =>
        unfold fldM at p1
        dsimp only at p1
        split at p1
        · rename_i C fs eo
          split at p1
          · rename_i hf
            split at p1
            · rename_i v ev
              obtain ⟨dx, ws, e1, e2, e3⟩ := r1.obj _ _ eo
              obtain ⟨w, e4, e5⟩ := look_rvs (ks := []) e2 e3 ev
              have I := hI _ _ hf
              exact ⟨_, _, _, _, w, rfl, e1, I.cl, I.no _ List.mem_cons_self, e4, p1.v r1 e5⟩
            · exact p1.elim
          · exact p1.elim
        · exact p1.elim
      | _ => exact p1.elim
/-! ### o.f = v -/
def putM (f : Str) (v : MV) : List (Str × MV) → List (Str × MV)
  | [] => [(f, v)]
  | (g, x) :: r => if g = f then (g, v) :: r else (g, x) :: putM f v r
def fldS (t : InsT) (F : Flds) (fl : Str) (o v : EF) : SF := fun μ h => (v μ h).st μ fun y h1 => (o μ h1).st μ fun x h2 => match x with
  | .ref i => match h2[i]? with
    | some (.ins C fs) => if (hasF t C fl && decide (F C = [] ∨ fs.map (·.1) ≠ F C)) && decide (fs.length < 1000) then .next μ (h2.set i (.ins C (putM fl y fs))) else .bad
    | _ => .bad
  | _ => .bad
theorem put_names {f : Str} : ∀ {fs : List (Str × MV)} {ws : List (Str × V)} {x : MV} {v : V}, ws.map (·.1) = fs.map (·.1) → (putF f v ws).map (·.1) = (putM f x fs).map (·.1)
  | [], [], _, _, _ => rfl
  | [], _ :: _, _, _, e => by cases e
  | _ :: _, [], _, _, e => by cases e
  | (g, y) :: fs, (g', u) :: ws, x, v, e => by
    have e1 : g' = g := (List.cons.inj e).1
    have e2 := (List.cons.inj e).2
    subst e1
    unfold putF putM
    by_cases hg : g' = f
    · rw [if_pos hg, if_pos hg]
      exact congrArg (g' :: ·) e2
    · rw [if_neg hg, if_neg hg]
      exact congrArg (g' :: ·) (put_names e2)
theorem put_rvs {K : PySem.W.Frag} {F : Flds} {H : Hp} {m : Nat → Addr} {n : Nat} {f : Str} : ∀ {fs : List (Str × MV)} {ws : List (Str × V)} {x : MV} {v : V}, ws.map (·.1) = fs.map (·.1) → RVs K F H m n (fs.map (·.2)) (ws.map (·.2)) → RV K F H m n x v → RVs K F H m n ((putM f x fs).map (·.2)) ((putF f v ws).map (·.2))
  | [], [], _, _, _, _, r => .cons r .nil
  | [], _ :: _, _, _, e, _, _ => by cases e
  | _ :: _, [], _, _, e, _, _ => by cases e
  | (g, y) :: fs, (g', u) :: ws, x, v, e, rs, r => by
    have e1 : g' = g := (List.cons.inj e).1
    have e2 := (List.cons.inj e).2
    subst e1
    cases rs with
    | cons r1 r2 =>
      unfold putF putM
      by_cases hg : g' = f
      · rw [if_pos hg, if_pos hg]
        exact .cons r r2
      · rw [if_neg hg, if_neg hg]
        exact .cons r1 (put_rvs e2 r2 r)
theorem ps_fldM {o value : Expr} {fo fv : EF} {pos' : Pos} (hI : ∀ C f, hasF t C f = true → ClsI X.K C [f]) (hJ : ∀ C f, hasF t C f = true → ∀ C', F C' ≠ [] → He.ga X.K C = He.ga X.K C' → C' = C) (ha : PE X o (tE X.K F T O W fo)) (hv : PE X value (tE X.K F T O W fv)) (hs : swapsWith value (some (.Attribute o fl pos')) pos.line X.env = pure false) : PS X (.Assign [.Attribute o fl pos'] value pos) (tS X.K F T O W (fldS t F fl fo fv)) :=
  PS.imp (ps_fld ha hv hs) fun D σ H ⟨m, h, μ, s, hr, p⟩ => PoS.ex s hr p fun y yu m1 h1 H1 s1 r1 st1 q1 p1 => PoS.ex s1 r1 p1 fun x xu m2 h2 H2 s2 r2 st2 q2 p2 => by
    cases q2 with
    | ref hi =>
      dsimp only at p2
      split at p2
      · rename_i C fs eo
        split at p2
        · rename_i hc
          rw [Bool.and_eq_true, Bool.and_eq_true] at hc
          obtain ⟨dx, ws, e1, e2, e3⟩ := r2.obj _ _ eo
          have I := hI _ _ hc.1.1
          have nim : ¬ Imm X.K F (.ins (He.ga X.K C) dx ws) := fun ⟨C', z1, z2, z3⟩ => by
            have e := hJ _ _ hc.1.1 C' z2 z1
            subst e
            rcases of_decide_eq_true hc.1.2 with q | q
            · exact z2 q
            · exact q (e2.symm.trans z3)
          have hl : ws.length = fs.length := by
            have := congrArg List.length e2
            rwa [List.length_map, List.length_map] at this
          refine ⟨_, _, dx, ws, rfl, e1, I.cl, I.no _ List.mem_cons_self, by rw [hl]; exact of_decide_eq_true hc.2, ?_⟩
          have st3 : Stp X.K F T m2 h2.length H2 m2 (h2.set _ (.ins C (putM fl y fs))) (upd H2 _ (.ins (He.ga X.K C) dx (putF fl yu ws))) := r2.put hi e1 nim (fun ps z => by cases z) ⟨dx, _, upd_same, put_names e2, (put_rvs e2 e3 (q1.st st2)).mo (Fix.set e1 nim) (fun _ _ => rfl) (Nat.le_refl _)⟩
          exact p2 m2 _ σ st3 (s2.st st3)
        · exact p2.elim
      · exact p2.elim
    | _ => exact p2.elim
end
/-! ### isinstance -/
inductive TyN where
  | bt (n : String) | own (C : Str)
  deriving DecidableEq
def tyM (h : MH) : MV → TyN
  | .non => .bt "NoneType" | .bl _ => .bt "bool" | .int _ => .bt "int" | .str _ => .bt "str" | .tup _ => .bt "tuple"
  | .lst _ => .bt "list" | .dic _ _ => .bt "dict" | .dicT _ _ => .bt "dict"
  | .exc C _ => .own C
  | .ins C _ => .own C
  | .raw _ => .bt "?"
  | .scr _ => .bt "?"
  | .ref i => match h[i]? with
    | some (.lst _) => .bt "list" | some .dead => .bt "?"
    | some (.dic _) => .bt "dict" | some (.dicT _) => .bt "dict"
    | some (.ins C _) => .own C
    | none => .bt "?"
def btSub (a b : String) : Bool := a == b || (a == "bool" && b == "int")
def kitR (sub : Str → Str → Bool) : TyN → TyN → Bool
  | .bt a, .bt b => btSub a b
  | .bt _, .own _ => false
  | .own C, .own D => sub C D
  | .own C, .bt b => sub C (Str.ofString b)
def bts : List String := ["int", "bool", "str", "list", "tuple", "dict"]
def tyV' (K : PySem.W.Frag) : TyN → Value
  | .bt n => .type n
  | .own C => .ref (He.ga K C)
def tyC (K : PySem.W.Frag) : TyN → V
  | .bt n => .ty n
  | .own C => .ref (He.ga K C)
/-- what K is to say of the classes: ins those of instances, es those of errors; bs the built-in ones that are asked -/
structure KitF (K : PySem.W.Frag) (ins es : List Str) (sub : Str → Str → Bool) : Prop where
  bo : ∀ a ∈ ["NoneType", "bool", "int", "str", "list", "tuple", "dict"], ∀ D ∈ ins ++ es, PySem.W.kitOne K (.type a) (.ref (He.ga K D)) = some false
  oo : ∀ C ∈ ins ++ es, ∀ D ∈ ins ++ es, PySem.W.kitOne K (.ref (He.ga K C)) (.ref (He.ga K D)) = some (sub C D)
  ob : ∀ C ∈ ins ++ es, ∀ b ∈ "ValueError" :: bts, PySem.W.kitOne K (.ref (He.ga K C)) (.type b) = some (sub C (Str.ofString b))
  ci : ∀ C ∈ ins, ClsI K C []
  ce : ∀ C ∈ es, XcC K (He.ga K C)
def btsOk : Bool := ["NoneType", "bool", "int", "str", "list", "tuple", "dict"].all fun a => bts.all fun b => decide (kitB a b = some (btSub a b))
theorem bts_ok : btsOk = true := by decide +kernel
def askOk (ins es : List Str) : TyN → Bool
  | .bt b => bts.contains b || b == "ValueError"
  | .own D => ins.contains D || es.contains D
def liveOk (ins es : List Str) (h : MH) : MV → Bool
  | .exc C _ => es.contains C
  | .ins C _ => ins.contains C
  | .dicT _ _ => false
  | .ref i => match h[i]? with
    | some (.ins C _) => ins.contains C
    | some .dead => false
    | some _ => true
    | none => false
  | .raw _ => false
  | .scr _ => false
  | _ => true
def isVE : TyN → Bool
  | .bt b => b == "ValueError"
  | _ => false
def isBt : TyN → Bool
  | .bt _ => true
  | .own _ => false
def isiM (ins es : List Str) (sub : Str → Str → Bool) (c : TyN) : MV → MH → R MV := fun x h => if askOk ins es c && liveOk ins es h x && !(isVE c && isBt (tyM h x)) then .ok (.bl (kitR sub (tyM h x) c)) h else .bad
section
variable {K : PySem.W.Frag} {F : Flds} {T : List (Addr × Str)} {O : Ot} {m : Nat → Addr} {h : MH} {H : Hp} {ins es : List Str} {sub : Str → Str → Bool}
theorem ty_ok {x : MV} {u : V} (kf : KitF K ins es sub) (hr : HR K F T m h H) (r : RV K F H m h.length x u) (l : liveOk ins es h x = true) :
    (∃ a, tyM h x = .bt a ∧ a ∈ ["NoneType", "bool", "int", "str", "list", "tuple", "dict"] ∧ TyX K H u (.type a)) ∨ (∃ C, tyM h x = .own C ∧ C ∈ ins ∧ TyX K H u (.ref (He.ga K C))) ∨
    (∃ C a d fs, tyM h x = .own C ∧ C ∈ es ∧ u = .ref a ∧ H a = some (XcO (.ref (He.ga K C)) (some d) a) ∧ H d = some (.xd fs)) := by
  cases r with
  | non => exact .inl ⟨_, rfl, by simp, .base .non⟩
  | bl b => exact .inl ⟨_, rfl, by simp, .base (.bl b)⟩
  | int i => exact .inl ⟨_, rfl, by simp, .base (.int i)⟩
  | str s => exact .inl ⟨_, rfl, by simp, .base (.str s)⟩
  | tup h1 h2 => exact .inl ⟨_, rfl, by simp, .base (.tup h1)⟩
  | lst h1 h2 => exact .inl ⟨_, rfl, by simp, .base (.frz h1)⟩
  | dic h1 h2 h3 => exact .inl ⟨_, rfl, by simp, .fDict h1⟩
  | dicT h1 h2 h3 => cases l
  | @ins C xs ws a dx h1 h2 h3 h4 =>
    have hC : C ∈ ins := List.contains_iff_mem.mp l
    have I := kf.ci C hC
    exact .inr (.inl ⟨C, rfl, hC, .base (.ins h1 I.cl I.ha I.hn I.ht I.hm)⟩)
  | raw _ => cases l
  | scr _ _ => cases l
  | exc h1 h2 h3 h4 => exact .inr (.inr ⟨_, _, _, _, rfl, List.contains_iff_mem.mp l, rfl, h1, h2⟩)
  | ref hi =>
    rename_i i
    have e : h[i]? = some h[i] := List.getElem?_eq_getElem hi
    have ro := hr.obj i _ e
    unfold liveOk at l
    unfold tyM
    dsimp only at l ⊢
    rw [e] at l ⊢
    generalize h[i] = o at l ro ⊢
    cases o with
    | lst xs =>
      obtain ⟨vs, e1, _⟩ := ro
      exact .inl ⟨_, rfl, by simp, .base (.lst e1)⟩
    | dic kvs =>
      rcases ro with ⟨kws, e1, _⟩ | ⟨_, e1⟩
      · exact .inl ⟨_, rfl, by simp, .base (.dK e1)⟩
      · exact .inl ⟨_, rfl, by simp, .base (.dT e1)⟩
    | dicT kvs =>
      obtain ⟨kws, e1, _⟩ := ro
      exact .inl ⟨_, rfl, by simp, .base (.dT e1)⟩
    | ins C fs =>
      obtain ⟨dx, ws, e1, _⟩ := ro
      have hC : C ∈ ins := List.contains_iff_mem.mp l
      have I := kf.ci C hC
      exact .inr (.inl ⟨C, rfl, hC, .base (.ins e1 I.cl I.ha I.hn I.ht I.hm)⟩)
    | dead => cases l
end
def rIsiA (K : PySem.W.Frag) : List V → Hp → VK → Prop := fun xs H Q => rIsi K xs H Q ∨ rIsX K xs H Q
theorem call_isiA {X : Cx} : CallR X (.builtin "isinstance") (rIsiA X.K) := call_isi.or call_isX
theorem ofS_inj {a b : String} (h : Str.ofString a = Str.ofString b) : a = b → True := fun _ => trivial
section
variable {X : Cx} {F : Flds} {T : List (Addr × Str)} {O : Ot} {W : WX} {e : Expr} {f : EF} {p pos : Pos} {ins es : List Str} {sub : Str → Str → Bool} {c : TyN} {ce : Expr}
theorem isi_ok {K : PySem.W.Frag} {σ : L2.St} {m : Nat → Addr} {h : MH} {H : Hp} {Q : VK} {x : MV} {u : V} (kf : KitF K ins es sub) (hr : HR K F T m h H) (r : RV K F H m h.length x u) (p : Po K F T (rlE K F) W m h.length σ H Q (isiM ins es sub c x h)) : rIsiA K [u, tyC K c] H Q := by
  unfold isiM at p
  split at p
  · rename_i hc
    rw [Bool.and_eq_true, Bool.and_eq_true] at hc
    obtain ⟨⟨h1, h2⟩, h3⟩ := hc
    have q := p.v hr (.bl _)
    rcases ty_ok kf hr r h2 with ⟨a, e1, e2, e3⟩ | ⟨C, e1, e2, e3⟩ | ⟨C, a, d, fs, e1, e2, e3, e4, e5⟩
    · rw [e1] at q h3
      cases c with
      | bt b =>
        have hb : b ∈ bts := by
          unfold askOk at h1
          rw [Bool.or_eq_true] at h1
          rcases h1 with h1 | h1
          · exact List.contains_iff_mem.mp h1
          · exfalso
            have : (!(isVE (.bt b) && true)) = true := h3
            unfold isVE at this
            dsimp only at this
            rw [h1] at this
            cases this
        have z : kitB a b = some (btSub a b) := of_decide_eq_true (List.all_eq_true.mp (List.all_eq_true.mp bts_ok a e2) b hb)
        exact .inl ⟨u, .ty b, .type a, .type b, _, rfl, .ty b, e3, kit_ty z, q⟩
      | own D =>
        have hD : D ∈ ins ++ es := by
          unfold askOk at h1
          rw [Bool.or_eq_true] at h1
          exact List.mem_append.mpr (h1.imp List.contains_iff_mem.mp List.contains_iff_mem.mp)
        exact .inl ⟨u, .ref _, .type a, .ref _, _, rfl, .own _, e3, kf.bo a e2 D hD, q⟩
    · rw [e1] at q
      have hC : C ∈ ins ++ es := List.mem_append_left _ e2
      cases c with
      | bt b =>
        have hb : b ∈ "ValueError" :: bts := by
          unfold askOk at h1
          rw [Bool.or_eq_true] at h1
          rcases h1 with h1 | h1
          · exact List.mem_cons_of_mem _ (List.contains_iff_mem.mp h1)
          · rw [eq_of_beq h1]
            exact List.mem_cons_self
        exact .inl ⟨u, .ty b, _, .type b, _, rfl, .ty b, e3, kf.ob C hC b hb, q⟩
      | own D =>
        have hD : D ∈ ins ++ es := by
          unfold askOk at h1
          rw [Bool.or_eq_true] at h1
          exact List.mem_append.mpr (h1.imp List.contains_iff_mem.mp List.contains_iff_mem.mp)
        exact .inl ⟨u, .ref _, _, .ref _, _, rfl, .own _, e3, kf.oo C hC D hD, q⟩
    · rw [e1] at q
      subst e3
      have hC : C ∈ ins ++ es := List.mem_append_right _ e2
      cases c with
      | bt b =>
        have hb : b ∈ "ValueError" :: bts := by
          unfold askOk at h1
          rw [Bool.or_eq_true] at h1
          rcases h1 with h1 | h1
          · exact List.mem_cons_of_mem _ (List.contains_iff_mem.mp h1)
          · rw [eq_of_beq h1]
            exact List.mem_cons_self
        exact .inr ⟨a, _, d, fs, .ty b, .type b, _, rfl, e4, e5, kf.ce C e2, .ty b, kf.ob C hC b hb, q⟩
      | own D =>
        have hD : D ∈ ins ++ es := by
          unfold askOk at h1
          rw [Bool.or_eq_true] at h1
          exact List.mem_append.mpr (h1.imp List.contains_iff_mem.mp List.contains_iff_mem.mp)
        exact .inr ⟨a, _, d, fs, .ref _, .ref _, _, rfl, e4, e5, kf.ce C e2, .own _, kf.oo C hC D hD, q⟩
  · exact p.elim
theorem pe_isiM (kf : KitF X.K ins es sub) (he : PE X e (tE X.K F T O W f)) (hc : PE X ce (tC (tyC X.K c))) (hg : Gl X "isinstance") (hm : X.mg "isinstance" = none) (h1 : starEach (e :: [ce]) X.env = (false, eval e X.env) :: starEach [ce] X.env) (h2 : starEach (ce :: []) X.env = (false, eval ce X.env) :: starEach [] X.env)
    (hpl : (backTo pos (starEach [ce] X.env)).any (·.1) = false) : PE X (.Call (.Name "isinstance" p) [e, ce] [] pos) (tE X.K F T O W (unE (isiM ins es sub c) f)) :=
  PE.imp (pe_callB call_isiA hg hm (by decide +kernel) (pa_cons he (pa_cons hc pa_nil h2) h1) (he := h1) (hpl := hpl)) fun σ H Q ⟨m, h, μ, s, hr, p⟩ => tG.seq s hr p fun x u m1 h1 H1 s1 r1 st1 q1 p1 => isi_ok kf r1 q1 p1
end
end M

set_option Elab.async false
set_option linter.all false
set_option maxRecDepth 100000
set_option maxHeartbeats 4000000
/-! own ==; methods of lists; built-ins by name; try -/
namespace M
open PySem PySem.Spec PyProof.Rows L2 DL
/-! ### == with own classes -/
def insOf (h : MH) : MV → Option Str
  | .ins C _ => some C
  | .ref i => match h[i]? with
    | some (.ins C _) => some C
    | _ => none
  | _ => none
abbrev EqT := List (Str × LF)
def blOf (n : Bool) : MV → MH → R MV
  | .bl b, h => .ok (.bl (if n then !b else b)) h
  | _, _ => .bad
def plainL : MV → Bool
  | .non => true
  | .tup _ => true
  | _ => false
def eqA (t : EqT) (x y : MV) (h : MH) : R MV := match insOf h x with
  | some C => match t.lookup C with
    | some o => (o [x, y] h).noexc.bind (blOf false)
    | none => .bad
  | none => match insOf h y with
    | some C => if plainL x then match t.lookup C with
        | some o => (o [y, x] h).noexc.bind (blOf false)
        | none => .bad
      else .bad
    | none => eqM x y h
def neA (t : EqT) (x y : MV) (h : MH) : R MV := match insOf h x with
  | some C => match t.lookup C with
    | some o => (o [x, y] h).noexc.bind (blOf true)
    | none => .bad
  | none => match insOf h y with
    | some _ => .bad
    | none => neM x y h
/-- what is asked of a class with an own __eq__ -/
structure EqF (P : Program) (w : World) (K : PySem.W.Frag) (mg : Str → Option Value) (base : Heap) (F : Flds) (T : List (Addr × Str)) (n : Nat) (ins : List Str) (C : Str) (o : LF) : Prop where
  own : OwnEq P w K mg base n (He.ga K C) (spM K F T 2 o)
  nfb : ∀ a ∈ ["NoneType", "bool", "int", "str", "list", "tuple", "dict"], PySem.W.notFirst K (He.ga K C) (.type a) = true
  nfo : ∀ D ∈ ins, PySem.W.notFirst K (He.ga K C) (.ref (He.ga K D)) = true
  ht : PySem.W.mroIn K (He.ga K C) (.type "tuple") = some false
  s1 : PySem.W.subIn K (.ref (He.ga K C)) (.type "tuple") = some false
  s2 : PySem.W.subIn K (.ref (He.ga K C)) (.type "NoneType") = some false
abbrev E0 : XK := fun _ _ _ => False
theorem cx_no {P : Program} {w : World} {l : List Env} {H : Hp} {s : Shared} {e : Value} {s' : Shared} (h : L2.CX P w l H s E0 e s') : False := by
  obtain ⟨_, _, _, _, _, _, _, _, _, _, _, _, z⟩ := h
  exact z
theorem passE0 {X : Cx} : Passes (L2.CX X.prog X.w) X E0 := fun _ _ _ _ _ _ _ h => (cx_no h).elim
theorem lookup_mem {t : EqT} {C : Str} {o : LF} (h : t.lookup C = some o) : (C, o) ∈ t := by
  induction t with
  | nil => cases h
  | cons p t ih =>
    obtain ⟨D, q⟩ := p
    rw [List.lookup_cons] at h
    by_cases e : (C == D) = true
    · rw [e] at h
      cases h
      rw [eq_of_beq e]
      exact List.mem_cons_self
    · have e' : (C == D) = false := by simpa using e
      rw [e'] at h
      exact List.mem_cons_of_mem _ (ih h)
section
variable {X : Cx} {F : Flds} {T : List (Addr × Str)} {t : EqT} {k : Nat} {ins es : List Str} {sub : Str → Str → Bool}
def rEqA (X : Cx) (F : Flds) (T : List (Addr × Str)) (t : EqT) : R2 := fun x y H Q => (∃ p ∈ t, rOw .Eq X.K (He.ga X.K p.1) (spM X.K F T 2 p.2) E0 x y H Q) ∨ (∃ p ∈ t, rOwB X.K (He.ga X.K p.1) (spM X.K F T 2 p.2) E0 x y H Q) ∨ rEqD X.K x y H Q
def rNeA (X : Cx) (F : Flds) (T : List (Addr × Str)) (t : EqT) : R2 := fun x y H Q => (∃ p ∈ t, rOw .NotEq X.K (He.ga X.K p.1) (spM X.K F T 2 p.2) E0 x y H Q) ∨ rNeD X.K x y H Q
theorem op_eqA (ef : ∀ p ∈ t, EqF X.prog X.w X.K X.mg X.base F T k ins p.1 p.2) (hr : Room (k + 1) X.A) : OpR X (compareOp .Eq) (rEqA X F T t) := by
  intro pins s σ H x y v u Q I rx ry h
  rcases h with ⟨p, hp, h⟩ | ⟨p, hp, h⟩ | h
  · exact op_eqOw (ef p hp).own hr passE0 pins s σ H x y v u Q I rx ry h
  · exact op_eqOwB (ef p hp).own (ef p hp).ht (ef p hp).s1 (ef p hp).s2 hr passE0 pins s σ H x y v u Q I rx ry h
  · exact op_eqD (by have := hr.units; omega) pins s σ H x y v u Q I rx ry h
theorem op_neA (ef : ∀ p ∈ t, EqF X.prog X.w X.K X.mg X.base F T k ins p.1 p.2) (hr : Room (k + 1) X.A) : OpR X (compareOp .NotEq) (rNeA X F T t) := by
  intro pins s σ H x y v u Q I rx ry h
  rcases h with ⟨p, hp, h⟩ | h
  · exact op_neOw (ef p hp).own hr passE0 pins s σ H x y v u Q I rx ry h
  · exact op_neD (by have := hr.units; omega) pins s σ H x y v u Q I rx ry h
theorem insOf_ok {K : PySem.W.Frag} {m : Nat → Addr} {h : MH} {H : Hp} {x : MV} {u : V} {C : Str} (hr : HR K F T m h H) (r : RV K F H m h.length x u) (e : insOf h x = some C) : ∃ a dx fs, u = .ref a ∧ H a = some (.ins (He.ga K C) dx fs) := by
  cases r with
  | ins h1 h2 h3 h4 =>
    cases e
    exact ⟨_, _, _, rfl, h1⟩
  | ref hi =>
    rename_i i
    unfold insOf at e
    dsimp only at e
    split at e
    · rename_i D fs eo
      cases e
      obtain ⟨dx, ws, e1, _⟩ := hr.obj _ _ eo
      exact ⟨_, dx, ws, rfl, e1⟩
    · cases e
  | _ => cases e
/-- the class of an instance is known -/
def insKn (ins : List Str) (h : MH) (x : MV) : Bool := match x with
  | .exc _ _ => false
  | x => liveOk ins [] h x
theorem ty_nf {x : MV} {u : V} {m : Nat → Addr} {h : MH} {H : Hp} {p : Str × LF} (kf : KitF X.K ins es sub) (e : EqF X.prog X.w X.K X.mg X.base F T k ins p.1 p.2) (hr : HR X.K F T m h H) (r : RV X.K F H m h.length x u) (l : insKn ins h x = true) : ∃ ty, TyX X.K H u ty ∧ PySem.W.notFirst X.K (He.ga X.K p.1) ty = true := by
  have l' : liveOk ins es h x = true ∧ ∀ C vs, x ≠ .exc C vs := by
    cases x <;> first | exact ⟨l, fun _ _ z => by cases z⟩ | cases l
  rcases ty_ok kf hr r l'.1 with ⟨a, e1, e2, e3⟩ | ⟨C, e1, e2, e3⟩ | ⟨C, a, d, fs, e1, e2, e3, e4, e5⟩
  · exact ⟨_, e3, e.nfb a e2⟩
  · exact ⟨_, e3, e.nfo C e2⟩
  · cases r with
    | exc => exact absurd rfl (l'.2 _ _)
    | ref hi =>
      rename_i i
      obtain ⟨w, hw, _⟩ := (hr.obj i h[i] (List.getElem?_eq_getElem hi)).live
      cases e3
      have ro := hr.obj i h[i] (List.getElem?_eq_getElem hi)
      generalize eo : h[i] = o at ro
      cases o with
      | lst xs => obtain ⟨_, q, _⟩ := ro; rw [q] at e4; cases e4
      | dic xs => rcases ro with ⟨_, q, _⟩ | ⟨_, q⟩ <;> rw [q] at e4 <;> cases e4
      | dicT xs => obtain ⟨_, q, _⟩ := ro; rw [q] at e4; cases e4
      | ins C fs => obtain ⟨_, _, q, _⟩ := ro; rw [q] at e4; cases e4
      | dead =>
        exfalso
        have e6 : h[i]? = some .dead := by rw [List.getElem?_eq_getElem hi, eo]
        have l2 : liveOk ins [] h (.ref i) = true := l
        unfold liveOk at l2
        dsimp only at l2
        rw [e6] at l2
        cases l2
    | tup h1 h2 => cases e3; rw [h1] at e4; cases e4
    | lst h1 h2 => cases e3; rw [h1] at e4; cases e4
    | dic h1 h2 h3 => cases e3; rw [h1] at e4; cases e4
    | dicT h1 h2 h3 => cases e3; rw [h1] at e4; cases e4
    | ins h1 h2 h3 h4 => cases e3; rw [h1] at e4; cases e4
    | raw _ => cases l
    | scr _ _ => cases l
    | _ => cases e3
end
def eqK (ins : List Str) (f : MV → MV → MH → R MV) : MV → MV → MH → R MV := fun x y h => if insKn ins h y then f x y h else .bad
section
variable {X : Cx} {F : Flds} {T : List (Addr × Str)} {t : EqT} {k : Nat} {ins es : List Str} {sub : Str → Str → Bool}
theorem own_sp {K : PySem.W.Frag} {W : WX} {σ : L2.St} {m : Nat → Addr} {h : MH} {H : Hp} {Q : VK} {x y : MV} {u v : V} {o : LF} {n : Bool} (hr : HR K F T m h H) (rx : RV K F H m h.length x u) (ry : RV K F H m h.length y v) (p : Po K F T (rlE K F) W m h.length σ H Q ((o [x, y] h).noexc.bind (blOf n))) :
    spM K F T 2 o [u, v] H (fun z H' => ∃ r, z = .bl r ∧ Q (.bl (if n then !r else r)) H') E0 := by
  refine ⟨rfl, m, h, [x, y], hr, .cons rx (.cons ry .nil), ?_⟩
  generalize o [x, y] h = r at p ⊢
  cases r with
  | ok a h' =>
    cases a with
    | bl b =>
      intro m' H' z st q
      cases q
      exact ⟨b, rfl, p m' H' _ st (.bl _)⟩
    | _ => exact p.elim
  | exc C vs h' => exact p.elim
  | bad => exact p.elim
theorem om_eqA (kf : KitF X.K ins es sub) (ef : ∀ p ∈ t, EqF X.prog X.w X.K X.mg X.base F T k ins p.1 p.2) : OpM X.K F T (rEqA X F T t) (eqK ins (eqA t)) := fun W σ m h H Q x y u v hr rx ry p => by
  unfold eqK at p
  split at p
  · rename_i hk
    unfold eqA at p
    split at p
    · rename_i C eC
      split at p
      · rename_i o eo
        have hp := lookup_mem eo
        obtain ⟨a, dx, fs, e1, e2⟩ := insOf_ok hr rx eC
        obtain ⟨ty, t1, t2⟩ := ty_nf kf (ef _ hp) hr ry hk
        exact .inl ⟨(C, o), hp, a, dx, fs, ty, e1, e2, t1, t2, own_sp (n := false) hr rx ry p⟩
      · exact p.elim
    · split at p
      · rename_i C eC
        split at p
        · rename_i hl
          split at p
          · rename_i o eo
            have hp := lookup_mem eo
            obtain ⟨a, dx, fs, e1, e2⟩ := insOf_ok hr ry eC
            refine .inr (.inl ⟨(C, o), hp, a, dx, fs, e1, e2, ?_, own_sp (n := false) hr ry rx p⟩)
            cases rx with
            | non => exact .inl rfl
            | tup h1 h2 => exact .inr ⟨_, _, rfl, SqT.of h1⟩
            | _ => cases hl
          · exact p.elim
        · exact p.elim
      · exact .inr (.inr (om_eq W σ m h H Q x y u v hr rx ry p))
  · exact p.elim
theorem om_neA (kf : KitF X.K ins es sub) (ef : ∀ p ∈ t, EqF X.prog X.w X.K X.mg X.base F T k ins p.1 p.2) : OpM X.K F T (rNeA X F T t) (eqK ins (neA t)) := fun W σ m h H Q x y u v hr rx ry p => by
  unfold eqK at p
  split at p
  · rename_i hk
    unfold neA at p
    split at p
    · rename_i C eC
      split at p
      · rename_i o eo
        have hp := lookup_mem eo
        obtain ⟨a, dx, fs, e1, e2⟩ := insOf_ok hr rx eC
        obtain ⟨ty, t1, t2⟩ := ty_nf kf (ef _ hp) hr ry hk
        exact .inl ⟨(C, o), hp, a, dx, fs, ty, e1, e2, t1, t2, own_sp (n := true) hr rx ry p⟩
      · exact p.elim
    · split at p
      · exact p.elim
      · exact .inr (om_ne W σ m h H Q x y u v hr rx ry p)
  · exact p.elim
end
/-! ### methods -/
def MtOk (K : PySem.W.Frag) (F : Flds) (T : List (Addr × Str)) (r : V → List V → Hp → VK → Prop) (o : MV → LF) : Prop :=
  ∀ (W : WX) (σ : L2.St) (m : Nat → Addr) (h : MH) (H : Hp) (Q : VK) (x : MV) (xs : List MV) (u : V) (us : List V), HR K F T m h H → RV K F H m h.length x u → RVs K F H m h.length xs us → Po K F T (rlE K F) W m h.length σ H Q (o x xs h) → r u us H Q
def isL (h : MH) (x : MV) : Bool := (lstM h x).isSome
def isS (_ : MH) : MV → Bool
  | .str _ => true
  | _ => false
def methE (ty : MH → MV → Bool) (o : MV → LF) (f : EF) (l : AF) : EF := fun μ h => (f μ h).bind fun x h1 => if ty h1 x then (l μ h1).bind fun xs h2 => o x xs h2 else .bad
def appM : MV → LF
  | .ref i, [y], h => match h[i]? with
    | some (.lst xs) => if xs.length < LIM then .ok .non (h.set i (.lst (xs ++ [y]))) else .bad
    | _ => .bad
  | _, _, _ => .bad
def popM : MV → LF
  | .ref i, [], h => match h[i]? with
    | some (.lst xs) => match xs[xs.length - 1]? with
      | some y => .ok y (h.set i (.lst xs.dropLast))
      | none => .bad
    | _ => .bad
  | _, _, _ => .bad
def pop1M : MV → LF
  | .ref i, [.int j], h => match h[i]? with
    | some (.lst xs) => if decide (-(2 ^ 63) ≤ j) && decide (j < 2 ^ 63) then match seqIndex? j xs.length with
        | some k => match xs[k]? with
          | some y => .ok y (h.set i (.lst (xs.eraseIdx k)))
          | none => .bad
        | none => .bad
      else .bad
    | _ => .bad
  | _, _, _ => .bad
def extM : MV → LF
  | .ref i, [y], h => match h[i]?, lstM h y with
    | some (.lst xs), some ys => if xs.length + ys.length ≤ LIM then .ok .non (h.set i (.lst (xs ++ ys))) else .bad
    | _, _ => .bad
  | _, _, _ => .bad
def firstAt (p : PyData → Bool) : List PyData → Nat → Option Nat
  | [], _ => none
  | d :: ds, k => if p d then some k else firstAt p ds (k + 1)
def idxM : MV → LF
  | x, [y], h => match lstM h x, toD h 64 x, toD h 64 y with
    | some _, some (.list ds), some d => if SeqAt.shaped (.list ds) && SeqAt.shaped d then match firstAt (fun z => PyData.eqv z d) ds 0 with
        | some j => .ok (.int j) h
        | none => .bad
      else .bad
    | _, _, _ => .bad
  | _, _, _ => .bad
theorem firstAt_ok {p : PyData → Bool} : ∀ {ds : List PyData} {k j : Nat}, firstAt p ds k = some j → k ≤ j ∧ (∃ z, ds[j - k]? = some z ∧ p z = true) ∧ ∀ (m : Nat) (z : PyData), m < j - k → ds[m]? = some z → p z = false
  | [], _, _, e => by cases e
  | d :: ds, k, j, e => by
    unfold firstAt at e
    split at e
    · rename_i hp
      cases e
      refine ⟨Nat.le_refl _, ⟨d, by rw [Nat.sub_self]; rfl, hp⟩, fun m z hm => absurd hm (by rw [Nat.sub_self]; exact Nat.not_lt_zero _)⟩
    · rename_i hp
      obtain ⟨h1, ⟨z, h2, h3⟩, h4⟩ := firstAt_ok e
      refine ⟨Nat.le_of_succ_le h1, ⟨z, ?_, h3⟩, fun m w hm hw => ?_⟩
      · have : j - k = (j - (k + 1)) + 1 := by omega
        rw [this]
        exact h2
      · cases m with
        | zero =>
          cases hw
          exact Bool.eq_false_iff.mpr hp
        | succ m => exact h4 m w (by omega) hw
def rExtendR : V → List V → Hp → VK → Prop := fun x vs H Q => ∃ l b xs zs, x = .ref l ∧ vs = [.ref b] ∧ H l = some (.lst xs) ∧ Rd H b (.lst zs) ∧ xs.length + zs.length ≤ sizeLine ∧ Q .non (upd H l (.lst (xs ++ zs)))
theorem mt_extendR {X : Cx} : MtR X "list.extend" rExtendR := by
  intro pins s σ H x vs v us Q I rx rv h
  obtain ⟨l, b, xs, zs, rfl, rfl, hH, hB, hz, q⟩ := h
  cases rx
  obtain ⟨u, rfl, ru⟩ := rv.one
  cases ru
  obtain ⟨z, its, n, r, hl, e⟩ := I.lstM hH
  obtain ⟨z2, its2, n2, r2, e2⟩ := hB.ok I.hok
  have hl2 := r2.length
  have hsz : its.toArray.size + its2.toArray.size ≤ sizeLine := by rw [List.size_toArray, List.size_toArray]; omega
  have hlong : ¬ (!its.toArray.isEmpty && Builtin.List.listTooLong (its.toArray.size + its2.toArray.size)) = true := by
    rw [notLongL hsz, Bool.and_false]
    exact Bool.false_ne_true
  refine call_meets PySem.F.slot_list_extend ⟨_, e, rfl⟩ PySem.F.entry_list_extend (PySem.F.args_list_extend_2 _ _)
    (AutoSeq1.list_extend_list_list_0 l its.toArray n b its2.toArray n2 hlong (by rw [List.size_toArray]; omega) (by omega)) ⟨e, e2, ?_⟩
  refine ⟨.non, _, I.lset (its' := its ++ its2) hH e (by simp) (r.append r2) ?_, rfl, q⟩
  rw [List.length_append]
  omega
section
variable {K : PySem.W.Frag} {F : Flds} {T : List (Addr × Str)}
theorem mo_app : MtOk K F T rAppend appM := fun W σ m h H Q x xs u us hr rx rs p => by
  unfold appM at p
  split at p
  · rename_i i y
    obtain ⟨v, rfl, rv⟩ := rvs1 rs
    cases rx
    split at p
    · rename_i zs e
      split at p
      · rename_i hl
        obtain ⟨vs, e1, e2⟩ := hr.lst e
        exact ⟨_, vs, v, rfl, rfl, e1, by rw [e2.length]; exact lim_lt hl, p m _ _ (hr.setL e (e2.app (.cons rv .nil))) .non⟩
      · exact p.elim
    · exact p.elim
  · exact p.elim
theorem RVs.dl {H : Hp} {m : Nat → Addr} {n : Nat} {xs : List MV} {vs : List V} (r : RVs K F H m n xs vs) : RVs K F H m n xs.dropLast vs.dropLast := by
  rw [List.dropLast_eq_take, List.dropLast_eq_take, r.length]
  exact r.take _
theorem RVs.er {H : Hp} {m : Nat → Addr} {n : Nat} : ∀ {xs : List MV} {vs : List V} (i : Nat), RVs K F H m n xs vs → RVs K F H m n (xs.eraseIdx i) (vs.eraseIdx i)
  | _, _, _, .nil => .nil
  | _, _, 0, .cons a b => b
  | _, _, i + 1, .cons a b => .cons a (RVs.er i b)
theorem mo_pop : MtOk K F T rPop popM := fun W σ m h H Q x xs u us hr rx rs p => by
  unfold popM at p
  split at p
  · rename_i i
    cases rs
    cases rx
    split at p
    · rename_i zs e
      split at p
      · rename_i y ey
        obtain ⟨vs, e1, e2⟩ := hr.lst e
        obtain ⟨w, f1, f2⟩ := e2.get ey
        have st := hr.setL e e2.dl
        exact ⟨_, vs, w, rfl, rfl, e1, by rw [e2.length]; exact f1, p m _ _ st (f2.st st)⟩
      · exact p.elim
    · exact p.elim
  · exact p.elim
theorem mo_pop1 : MtOk K F T rPopAt pop1M := fun W σ m h H Q x xs u us hr rx rs p => by
  unfold pop1M at p
  split at p
  · rename_i i j
    obtain ⟨v, rfl, rv⟩ := rvs1 rs
    cases rv
    cases rx
    split at p
    · rename_i zs e
      split at p
      · rename_i hj
        rw [Bool.and_eq_true] at hj
        split at p
        · rename_i k ek
          split at p
          · rename_i y ey
            obtain ⟨vs, e1, e2⟩ := hr.lst e
            obtain ⟨w, f1, f2⟩ := e2.get ey
            have st := hr.setL e (e2.er k)
            exact ⟨_, vs, j, k, w, rfl, rfl, e1, of_decide_eq_true hj.1, of_decide_eq_true hj.2, by rw [e2.length]; exact ek, f1, p m _ _ st (f2.st st)⟩
          · exact p.elim
        · exact p.elim
      · exact p.elim
    · exact p.elim
  · exact p.elim
theorem mo_ext : MtOk K F T rExtendR extM := fun W σ m h H Q x xs u us hr rx rs p => by
  unfold extM at p
  split at p
  · rename_i i y
    obtain ⟨v, rfl, rv⟩ := rvs1 rs
    cases rx
    split at p
    · rename_i xs ys e1 e2
      split at p
      · rename_i hl
        obtain ⟨vs, a1, a2⟩ := hr.lst e1
        obtain ⟨a, ws, rfl, b1, b2⟩ := lstM_rd hr rv e2
        exact ⟨_, _, vs, ws, rfl, rfl, a1, b1, by rw [a2.length, b2.length]; exact lim_line hl, p m _ _ (hr.setL e1 (a2.app b2)) .non⟩
      · exact p.elim
    · exact p.elim
  · exact p.elim
theorem mo_idx : MtOk K F T (rIndexD K) idxM := fun W σ m h H Q x xs u us hr rx rs p => by
  unfold idxM at p
  split at p
  · rename_i y
    obtain ⟨v, rfl, rv⟩ := rvs1 rs
    split at p
    · rename_i l ds d el eds ed
      split at p
      · rename_i hs
        rw [Bool.and_eq_true] at hs
        split at p
        · rename_i j ej
          obtain ⟨_, ⟨z, h2, h3⟩, h4⟩ := firstAt_ok ej
          obtain ⟨a, vs, e1, e2, e3⟩ := lstM_ok hr rx el
          subst e1
          exact ⟨a, v, d, ds, j, z, rfl, rfl, toD_ok hr _ _ _ _ rx eds, toD_ok hr _ _ _ _ rv ed, hs.1, hs.2, h2, h3, h4, p.v hr (.int _)⟩
        · exact p.elim
      · exact p.elim
    · exact p.elim
  · exact p.elim
end
section
variable {X : Cx} {F : Flds} {T : List (Addr × Str)} {O : Ot} {W : WX} {o e : Expr} {es : List Expr} {f : EF} {l : AF} {name : Str} {id : String} {r : V → List V → Hp → VK → Prop} {om : MV → LF} {apos cpos p pos : Pos} {x : Str}
theorem pe_bmL (pa : PlainAttrs "list") (slot : Slot "list" name id) (hty : typeOf (.builtin id) = pure (.type "method_descriptor")) (hm : MtR X id r) (hk : MtOk X.K F T r om) (ho : PE X o (tE X.K F T O W f)) (ha : PA X (e :: es) (tA X.K F T O W l)) (hbase : attributeBase o name X.env (eval o X.env) = eval o X.env)
    (hfew : ((backTo cpos (starEach (e :: es) X.env)).all (fun x => !x.1) && (backToKw cpos (keywordEach [] X.env)).all (fun x => x.1.isSome)
      && decide ((e :: es).length + ([] : List Keyword).length + (if ([] : List Keyword).isEmpty then 0 else 1) < 30)) = true)
    (hline : (apos.endLine == cpos.line) = true) (hs : starEach (e :: es) X.env = (false, eval e X.env) :: starEach es X.env) (hplain : (backTo cpos (starEach es X.env)).any (·.1) = false) :
    PE X (.Call (.Attribute o name apos) (e :: es) [] cpos) (tE X.K F T O W (methE isL om f l)) :=
  PE.imp (pe_bm pa slot hty hm ho ha hbase hfew hline hs hplain) fun σ H Q ⟨m, h, μ, s, hr, p⟩ => tG.seq s hr p fun x u m1 h1 H1 s1 r1 st1 q1 p1 => by
    split at p1
    · rename_i hx
      obtain ⟨xs, ex⟩ := Option.isSome_iff_exists.mp hx
      obtain ⟨a, vs, e1, e2, e3⟩ := lstM_ok r1 q1 ex
      refine ⟨by rw [e1]; exact .inl ⟨rfl, vs, e2⟩, tG.seq s1 r1 p1 fun xs us m2 h2 H2 s2 r2 st2 q2 p2 => hk W σ m2 h2 H2 Q x xs u us r2 (q1.st st2) q2 p2⟩
    · exact p1.elim
theorem pe_bmL0 (pa : PlainAttrs "list") (slot : Slot "list" name id) (hty : typeOf (.builtin id) = pure (.type "method_descriptor")) (hm : MtR X id r) (hk : MtOk X.K F T r om) (ho : PE X o (tE X.K F T O W f)) (hbase : attributeBase o name X.env (eval o X.env) = eval o X.env) (hline : (apos.endLine == cpos.line) = true) :
    PE X (.Call (.Attribute o name apos) [] [] cpos) (tE X.K F T O W (methE isL om f nilA)) :=
  PE.imp (pe_bm0 pa slot hty hm ho hbase hline) fun σ H Q ⟨m, h, μ, s, hr, p⟩ => tG.seq s hr p fun x u m1 h1 H1 s1 r1 st1 q1 p1 => by
    split at p1
    · rename_i hx
      obtain ⟨xs, ex⟩ := Option.isSome_iff_exists.mp hx
      obtain ⟨a, vs, e1, e2, e3⟩ := lstM_ok r1 q1 ex
      exact ⟨by rw [e1]; exact .inl ⟨rfl, vs, e2⟩, hk W σ m1 h1 H1 Q x [] u [] r1 q1 .nil p1⟩
    · exact p1.elim
/-! ### built-ins by name -/
variable {rl : List V → Hp → VK → Prop} {ol : LF}
theorem pe_bltM (hc : CallR X (.builtin id) rl) (hl : LsM X.K F T rl ol) (hg : Gl X x) (hm : X.mg x = none) (hv : bootBuiltins x = some (.builtin id)) (ha : PA X (e :: es) (tA X.K F T O W l)) (hn : x ≠ "__name__") (hdb : (x == ("__debug__" : Str)) = false)
    (he : starEach (e :: es) X.env = (false, eval e X.env) :: starEach es X.env) (hpl : (backTo pos (starEach es X.env)).any (·.1) = false) : PE X (.Call (.Name x p) (e :: es) [] pos) (tE X.K F T O W (callE ol l)) :=
  PE.imp (pe_callB hc hg hm hv ha hn hdb he hpl) fun σ H Q ⟨m, h, μ, s, hr, p⟩ => tG.seq s hr p fun xs us m1 h1 H1 s1 r1 st1 q1 p1 => hl W σ m1 h1 H1 Q xs us r1 q1 p1
theorem pe_tyM {Ty : String} (hc : CallR X (.type Ty) rl) (hl : LsM X.K F T rl ol) (hg : Gl X x) (hm : X.mg x = none) (hv : bootBuiltins x = some (.type Ty)) (ha : PA X (e :: es) (tA X.K F T O W l)) (hn : x ≠ "__name__") (hdb : (x == ("__debug__" : Str)) = false)
    (he : starEach (e :: es) X.env = (false, eval e X.env) :: starEach es X.env) (hpl : (backTo pos (starEach es X.env)).any (·.1) = false) : PE X (.Call (.Name x p) (e :: es) [] pos) (tE X.K F T O W (callE ol l)) :=
  PE.imp (pe_callTy hc hg hm hv ha hn hdb he hpl) fun σ H Q ⟨m, h, μ, s, hr, p⟩ => tG.seq s hr p fun xs us m1 h1 H1 s1 r1 st1 q1 p1 => hl W σ m1 h1 H1 Q xs us r1 q1 p1
end
end M

set_option Elab.async false
set_option linter.all false
set_option maxRecDepth 100000
set_option maxHeartbeats 4000000
/-! try .. except E as e: kept = e; a lambda handed to a def -/
namespace M
open PySem PySem.Spec PyProof.Rows L2 DL
/-- try: body; except B as (slot i): (slot j) = it -/
def tryS (es : List Str) (i j : Nat) (body : SF) : SF := fun μ h => match body μ h with
  | .exc C vs μ1 h1 => if es.contains C && decide (i ≠ j) && decide (i < μ1.length) then .next ((μ1.set j (some (.exc C vs))).set i none) h1 else .bad
  | r => r
section
variable {X : Cx} {F : Flds} {T : List (Addr × Str)} {O : Ot} {W : WX} {es : List Str} {x n : Str} {c : Value} {i j : Nat} {body : List Stmt} {np pos pos' p1 p2 p3 : Pos} {sb : SF} {n2 : Str}
theorem ps_tryM (hs : X.stack = X.env :: X.outer) (hf : X.env.frame = some X.env.locals) (hN : X.N.Nodup) (hi : X.N[i]? = some n) (hln : X.env.kindOf n = some .local) (hj : X.N[j]? = some n2) (hlj : X.env.scope.names.lookup n2 = some .local) (hc : Names X x c) (tk : Takes X W) (hex : X.ex = [])
    (hes : ∀ C ∈ es, PySem.W.exmOne X.K (.ref (He.ga X.K C)) c = some true) (hd : (n == ("__debug__" : Str)) = false) (hcd : (n == ("__classdict__" : Str)) = false)
    (hb : ∀ (W' : WX) (pn : List (Addr × Obj)) (xe : Value → Shared → Prop), Takes (X.tr pn xe) W' → PassesOwn (model X.prog X.w) X.A X.env xe → PSs (X.tr pn xe) body (tS X.K F T O W' sb)) :
    PS X (.Try body [.ExceptHandler (some (.Name x np)) (some n) [.Assign [.Name n2 p1] (.Name n p2) p3] pos'] [] [] pos) (tS X.K F T O W (tryS es i j sb)) := by
  have h0 := ps_try_keep (X := X) (x := x) (n := n) (c := c) (i := i) (b₀ := .Assign [.Name n2 p1] (.Name n p2) p3) (suite := []) (np := np) (pos := pos) (pos' := pos') (body := body) (tb := fun W' => tS X.K F T O W' sb) (ts := fun _ _ _ => tAsg (tVar i) (gName j)) (Wout := W) hs hf hN hi hln hc tk hex hb (fun a oe cls d pn _ _ => by
    refine pss_one (ps_asg (pe_var (i := i) hi (.inl hln) hd hcd) (pg_name (i := j) hN hj (.inl hlj) (.inr hlj)) ?_ ?_ ?_)
    · rfl
    · rfl
    · rfl)
  refine PS.imp h0 fun D σ H ⟨m, h, μ, s, hr, p⟩ => ⟨m, h, μ, s, hr, ?_⟩
  unfold tryS at p
  generalize sb μ h = r at p ⊢
  cases r with
  | exc C vs μ1 h1 =>
    dsimp only at p
    split at p
    · rename_i hC
      rw [Bool.and_eq_true, Bool.and_eq_true] at hC
      have hij := of_decide_eq_true hC.1.2
      have hil := of_decide_eq_true hC.2
      intro m' H' d ws σ' st sr hd' rv
      refine ⟨true, hes C (List.contains_iff_mem.mp hC.1.1), fun _ a na => ?_, fun z => nomatch z⟩
      have li : i < σ'.length := by rw [sr.len]; exact hil
      · refine ⟨.ref a, List.getElem?_set_self li, na, ?_⟩
        have st2 := st.hr.aux (u := XcO (.ref (He.ga X.K C)) (some d) a) na
        refine p m' _ _ (st.tr st2) ⟨by simp only [List.length_set]; exact (sr.st st2).len, fun k v e => ?_, (sr.st st2).out, (sr.st st2).imm⟩
        have s2 := sr.st st2
        by_cases hk : k = i
        · subst hk
          have : ((μ1.set j (some (MV.exc C vs))).set k none)[k]? = some none ∨ ((μ1.set j (some (MV.exc C vs))).set k none)[k]? = none := by
            rcases Nat.lt_or_ge k (μ1.set j (some (MV.exc C vs))).length with q | q
            · exact .inl (List.getElem?_set_self q)
            · exact .inr (List.getElem?_eq_none_iff.mpr (by rw [List.length_set]; exact q))
          rcases this with q | q <;> rw [q] at e <;> cases e
        · rw [List.getElem?_set_ne (Ne.symm hk)] at e ⊢
          by_cases hkj : k = j
          · subst hkj
            have hl : k < μ1.length := by
              have := (List.getElem?_eq_some_iff.mp e).1
              rwa [List.length_set] at this
            rw [List.getElem?_set_self hl] at e
            cases e
            refine ⟨.ref a, List.getElem?_set_self (by rw [List.length_set, sr.len]; exact hl), .exc upd_same ?_ rfl (rv.st st2)⟩
            rw [upd_ne (ne_of_none hd' na)]
            exact hd'
          · rw [List.getElem?_set_ne (Ne.symm hkj)] at e ⊢
            rw [List.getElem?_set_ne (Ne.symm hk)]
            exact s2.get k v e
    · exact p.elim
  | next μ1 h1 => exact p
  | ret μ1 h1 => exact p
  | brk μ1 h1 => exact p
  | cnt μ1 h1 => exact p
  | bad => exact p
end
end M

set_option Elab.async false
set_option linter.all false
set_option maxRecDepth 100000
set_option maxHeartbeats 4000000
/-! tables of a program, what is to hold of a context, small facts of syntax -/
namespace M
open PySem PySem.Spec PyProof.Rows L2 DL
def dbg (x : Str) : Bool := !(x == ("__debug__" : Str)) && !(x == ("__classdict__" : Str)) && !(x == ("__name__" : Str))
structure Shape where
  nm : Str
  n : Nat
  ks : List Str
  o : LF
/-- a def that is handed a lambda, and what it makes of it -/
structure Heard where
  nm : Str
  o : (MH → R MV) → MH → R MV
structure Tb where
  F : Flds
  T : List (Addr × Str)
  O : Ot
  ins : InsT
  ers : InsT
  insN : List Str
  errN : List Str
  sub : Str → Str → Bool
  eqs : EqT
  shp : List Shape
  con : List (Str × MV)
  blt : List Str
  imp : List (Str × String)
  gd : Bool
  thk : Option (Str × Nat × Addr × (MH → R MV))
  rai : List (Str × Str)
  top : Option Str
  hrd : List Heard
  lam : Bool
  /-- where lists are made that are written later; which slots a loop forgets; what is written no more from a line on -/
  rf : List (Nat × Nat × Nat)
  cl : List (Nat × List Nat)
  fz : List (Nat × List Nat)
  fd : List (Nat × List Nat)
def Tb.md (tb : Tb) (p : Pos) : Bool := tb.rf.contains (p.line, p.col, p.endCol)
def Tb.thkI (tb : Tb) : List Nat := match tb.thk with
  | some (_, i, _, _) => [i]
  | none => []
def Tb.cls (tb : Tb) (p : Pos) : List Nat := match tb.cl.lookup p.line with
  | some l => l
  | none => []
def Tb.frd (tb : Tb) (p : Pos) : List Nat := match tb.fd.lookup p.line with
  | some l => l
  | none => []
def Tb.frz (tb : Tb) (p : Pos) : List Nat := match tb.fz.lookup p.line with
  | some l => l
  | none => []
/-- what is known of a def or class that is called so -/
def CallF (P : Program) (w : World) (K : PySem.W.Frag) (mg : Str → Option Value) (base : Heap) (F : Flds) (T : List (Addr × Str)) (gd : Bool) (k : Nat) (s : Shape) : Prop :=
  (∃ (f : Addr) (fd : FuncData) (ps : List Str) (ix : List Nat) (ds : List MV) (dvs : List V) (its : List Value) (o : LF) (g : Bool) (j : Nat), mg s.nm = some (.ref f) ∧ PySem.W.keepIn K (.ref f) = true ∧ FnM g P w K mg base j f fd ps (spM K F T ps.length o) ∧ (g = true → gd = true) ∧ j ≤ k ∧ Vals dvs its ∧ CstOk ds dvs ∧
    (∀ (s' : Shared) (us ws : List Value), K.In s'.heap → us.length = s.n → ws.length = s.ks.length → BindsTo s' fd ⟨us, s.ks.zip ws⟩ (ps.zip (pickL (us ++ ws ++ its) ix))) ∧
    (∀ l : List V, l.length = s.n + s.ks.length + dvs.length → (pickL l ix).length = ps.length) ∧ s.o = ordM ix ds o) ∨
  (∃ (f : Addr) (fd : FuncData) (ps : List Str) (ix : List Nat) (ds : List MV) (dvs : List V) (its : List Value) (o : LF) (j : Nat), mg s.nm = some (.ref (He.ga K s.nm)) ∧ PySem.W.keepIn K (.ref (He.ga K s.nm)) = true ∧ Mk K (He.ga K s.nm) f ∧ FnOk P w K mg base (L2.CX P w) j f fd ps (spM K F T ps.length o) ∧ j + 1 ≤ k ∧ Vals dvs its ∧ CstOk ds dvs ∧
    (∀ (s' : Shared) (us ws : List Value), K.In s'.heap → us.length = s.n + 1 → ws.length = s.ks.length → BindsTo s' fd ⟨us, s.ks.zip ws⟩ (ps.zip (pickL (us ++ ws ++ its) ix))) ∧
    (∀ l : List V, l.length = s.n + 1 + s.ks.length + dvs.length → (pickL l ix).length = ps.length) ∧ s.o = gc (makeM F s.nm (ordM ix ds o)))
theorem CallF.cal {X : Cx} {F : Flds} {T : List (Addr × Str)} {gd : Bool} {k : Nat} {s : Shape} {W : WX} (c : CallF X.prog X.w X.K X.mg X.base F T gd k s) (hr : Room k X.A) (gu : gd = true → X.A.guards = some []) (tk : Takes X W) : ∃ v, X.mg s.nm = some v ∧ PySem.W.keepIn X.K v = true ∧ CalV X F T W v s.n s.ks s.o := by
  rcases c with ⟨f, fd, ps, ix, ds, dvs, its, o, g, j, c1, c2, c3, c4, c5, c6, c7, c8, c9, c10⟩ | ⟨f, fd, ps, ix, ds, dvs, its, o, j, c1, c2, c3, c4, c5, c6, c7, c8, c9, c10⟩
  · refine ⟨_, c1, c2, ?_⟩
    rw [c10]
    exact calV_def c3 (fun e => gu (c4 e)) (hr.mono c5) tk c6 c7 c8 c9
  · refine ⟨_, c1, c2, ?_⟩
    rw [c10]
    exact calV_make c3 c4 (hr.mono c5) tk c6 c7 c8 c9
/-- the call of what was handed in -/
def thkE (i : Nat) (f : Addr) (θ : MH → R MV) : EF := fun μ h => match μ[i]? with
  | some (some (.raw a)) => if a = f then θ h else .bad
  | _ => .bad
def retOf : RS → R MV
  | .ret v h => .ok v h
  | .next _ h => .ok .non h
  | _ => .bad
def startM (n : Nat) (xs : List MV) : ME := xs.map some ++ List.replicate (n - xs.length) none
/-- a def that calls what it is handed -/
def HeardF (P : Program) (w : World) (K : PySem.W.Frag) (mg : Str → Option Value) (base : Heap) (F : Flds) (T : List (Addr × Str)) (gd : Bool) (k : Nat) (s : Heard) : Prop :=
  ∃ (g : Addr) (pg : Arguments) (bg : List Stmt) (sg : Scope) (dV kV doc pm cdv ct oc : Value) (an od : Option Addr) (osl : Array (Option Value)) (Ng : List Str) (a : Str) (sf : Addr → (MH → R MV) → SF) (j : Nat),
    mg s.nm = some (.ref g) ∧ PySem.W.keepIn K (.ref g) = true ∧ K.lookup g = some ⟨oc, od, .func (PySem.W.fnOf s.nm s.nm pg bg sg dV kV doc pm an cdv ct), osl⟩ ∧ PySem.W.codeIn K cdv s.nm = true ∧ L2.Binds K (PySem.W.fnOf s.nm s.nm pg bg sg dV kV doc pm an cdv ct) [a] [] ∧
    FnScope Ng [a] sg ∧ Ng[0]? = some a ∧ Vis sg a ∧ dbg a = true ∧ dbg s.nm = true ∧ j + 1 ≤ k ∧
    (∀ (A : Around) (stk : List Env) (s0 : Shared) (H0 : Hp) (O : Ot) (f : Addr) (θ : MH → R MV), Room j (A.deeper (envOfC s.nm sg s0.heap.objs.size g cdv)) → (gd = true → A.guards = some []) →
      (∀ (W : WX) (pn : List (Addr × Obj)) (xe : Value → Shared → Prop), Takes ((cxOf C8.CX0 P w K mg base Ng s.nm sg g cdv A stk s0 H0 C8.E0).tr pn xe) W → ∀ p pos, PE ((cxOf C8.CX0 P w K mg base Ng s.nm sg g cdv A stk s0 H0 C8.E0).tr pn xe) (.Call (.Name a p) [] [] pos) (tE K F T O W (thkE 0 f θ))) →
      PSs (cxOf C8.CX0 P w K mg base Ng s.nm sg g cdv A stk s0 H0 C8.E0).nox bg (tS K F T O (fun _ _ _ _ => False) (sf f θ))) ∧
    (∀ f θ h, s.o θ h = .bad ∨ gcR h.length (retOf (sf f θ (startM Ng.length [.raw f]) h)) = s.o θ h)
/-- what holds of the program, whatever runs -/
structure Fx (tb : Tb) (k : Nat) (P : Program) (w : World) (K : PySem.W.Frag) (mg : Str → Option Value) (base : Heap) : Prop where
  bl : ∀ b ∈ tb.blt, mg b = none
  co : ∀ p ∈ tb.con, ∃ u x, mg p.1 = some u ∧ RelV x u ∧ ∀ H m n, RV K tb.F H m n p.2 x
  im : ∀ p ∈ tb.imp, mg p.1 = some (.builtin p.2)
  cls : ∀ C ∈ tb.insN ++ tb.errN, mg C = some (.ref (He.ga K C))
  tp : ∀ C, tb.top = some C → mg C = some (.ref (He.ga K C)) ∧ ∀ D ∈ tb.errN, PySem.W.exmOne K (.ref (He.ga K D)) (.ref (He.ga K C)) = some true
  kit : KitF K tb.insN tb.errN tb.sub
  ci : ∀ C f, hasF tb.ins C f = true → ClsI K C [f]
  gi : ∀ C f, hasF tb.ins C f = true → ∀ C', tb.F C' ≠ [] → He.ga K C = He.ga K C' → C' = C
  ce : ∀ C f, hasF tb.ers C f = true → ErrI K C [f]
  eq : ∀ p ∈ tb.eqs, EqF P w K mg base tb.F tb.T (k - 1) tb.insN p.1 p.2
  ca : ∀ s ∈ tb.shp, CallF P w K mg base tb.F tb.T tb.gd k s
  rz : ∀ p ∈ tb.rai, XCls P w K mg base p.1 p.2 (He.ga K p.1) ∧ tb.F p.1 = [p.2]
  hd : ∀ s ∈ tb.hrd, HeardF P w K mg base tb.F tb.T tb.gd k s
structure Gd (tb : Tb) (k : Nat) (N : List Str) (sc : Scope) (X : Cx) (W : WX) : Prop where
  fx : Fx tb k X.prog X.w X.K X.mg X.base
  k2 : 2 ≤ k
  hN : X.N = N
  nd : N.Nodup
  es : X.env.scope = sc
  kd : sc.kind = .function
  calm : X.calm = true
  room : Room k X.A
  gu : tb.gd = true → X.A.guards = some []
  tk : Takes X W
  th : ∀ a i f θ, tb.thk = some (a, i, f, θ) → ∀ (pn : List (Addr × Obj)) (xe : Value → Shared → Prop) (W' : WX), Takes (X.tr pn xe) W' → ∀ p pos, PE (X.tr pn xe) (.Call (.Name a p) [] [] pos) (tE X.K tb.F tb.T tb.O W' (thkE i f θ))
  lm : tb.lam = true → 4 ≤ k ∧ Fx { tb with thk := none, lam := false } (k - 2) X.prog X.w X.K X.mg X.base ∧ ∃ c Pt, LamX.TabB X.base X.mg c Pt ∧ X.env.code = .ref c ∧ (Pt, X.env.qual ++ "<lambda>") ∈ tb.T ∧ ∀ p ∈ tb.T, p.1 = Pt → p.2 = X.env.qual ++ "<lambda>"
/-- .. of a def's body, or a try's in it -/
structure GdS (tb : Tb) (k : Nat) (N : List Str) (sc : Scope) (X : Cx) (W : WX) : Prop where
  g : Gd tb k N sc X W
  stk : X.stack = X.env :: X.outer
  fr : X.env.frame = some X.env.locals
  ex : X.ex = []
  fn : ∀ x, X.fn x = true
  ps : PassesOwn (model X.prog X.w) X.A X.env X.xe
abbrev Tb.blk (tb : Tb) : Tb := { tb with thk := none, lam := false }
theorem Gd.blk {tb : Tb} {k : Nat} {N : List Str} {sc : Scope} {X : Cx} {W : WX} (G : Gd tb k N sc X W) (s : Shared) (H : Hp) (scope : Scope) (C : Addr) (cl : List (Str × Addr)) (fp : List Addr) (hk : scope.kind = .function) : Gd tb.blk k N (relS scope sc) (X.blk s H scope (compEnvC scope cl C X.env) fp) W0 :=
  ⟨⟨G.fx.bl, G.fx.co, G.fx.im, G.fx.cls, G.fx.tp, G.fx.kit, G.fx.ci, G.fx.gi, G.fx.ce, G.fx.eq, G.fx.ca, G.fx.rz, G.fx.hd⟩, G.k2, G.hN, G.nd, by rw [← G.es]; rfl, hk, G.calm, G.room, G.gu, LamX.takes0, (fun _ _ _ _ e => nomatch e), fun e => nomatch e⟩
section
variable (tb : Tb) (k : Nat) (N : List Str) (sc : Scope)
def EOk (e : Expr) (f : EF) : Prop := ∀ X W, Gd tb k N sc X W → PE X e (tE X.K tb.F tb.T tb.O W f)
def TOk (e : Expr) (f : TF) : Prop := ∀ X W, Gd tb k N sc X W → PT X e (tT X.K tb.F tb.T tb.O W f)
def WOk (e : Expr) (f : TF) : Prop := ∀ X W, Gd tb k N sc X W → PW X e (tT X.K tb.F tb.T tb.O W f)
def AOk (es : List Expr) (f : AF) : Prop := ∀ X W, Gd tb k N sc X W → PA X es (tA X.K tb.F tb.T tb.O W f)
def KOk (es : List Keyword) (f : AF) : Prop := ∀ X W, Gd tb k N sc X W → PK X es (tA X.K tb.F tb.T tb.O W f)
def IOk (tg e : Expr) (f : IF) : Prop := ∀ X W, Gd tb k N sc X W → PI X tg e (tI X.K tb.F tb.T tb.O W f)
def SOk (st : Stmt) (f : SF) : Prop := ∀ X W, GdS tb k N sc X W → PS X st (tS X.K tb.F tb.T tb.O W f)
def BOk (st : List Stmt) (f : SF) : Prop := ∀ X W, GdS tb k N sc X W → PSs X st (tS X.K tb.F tb.T tb.O W f)
def GOk (tg : Expr) (f : GF) : Prop := ∀ X W, GdS tb k N sc X W → PG X tg (tTg X.K tb.F tb.T tb.O W f)
def GsOk (tg : List Expr) (f : GsF) : Prop := ∀ X W, GdS tb k N sc X W → PGs X tg (tTgs X.K tb.F tb.T tb.O W f)
abbrev CE (e : Expr) := Option { f : EF // EOk tb k N sc e f }
abbrev CTt (e : Expr) := Option { f : TF // TOk tb k N sc e f }
abbrev CA (es : List Expr) := Option { f : AF // AOk tb k N sc es f }
abbrev CK (es : List Keyword) := Option { f : AF // KOk tb k N sc es f }
abbrev CI (tg e : Expr) := Option { f : IF // IOk tb k N sc tg e f }
abbrev CS (st : Stmt) := Option { f : SF // SOk tb k N sc st f }
abbrev CB (st : List Stmt) := Option { f : SF // BOk tb k N sc st f }
abbrev CG (tg : Expr) := Option { f : GF // GOk tb k N sc tg f }
abbrev CGs (tg : List Expr) := Option { f : GsF // GsOk tb k N sc tg f }
end
/-! ### syntax -/
def plainX : Expr → Bool
  | .Starred _ _ => false
  | _ => true
theorem star_ne {e : Expr} {es : List Expr} {env : Env} (h : plainX e = true) : starEach (e :: es) env = (false, eval e env) :: starEach es env := by
  cases e <;> first | rfl | cases h
theorem star_any {pos : Pos} {env : Env} : ∀ {es : List Expr}, es.all plainX = true → (backTo pos (starEach es env)).any (·.1) = false
  | [], _ => rfl
  | e :: es, h => by
    rw [List.all_cons, Bool.and_eq_true] at h
    rw [star_ne h.1]
    show (false || (backTo pos (starEach es env)).any (·.1)) = false
    rw [star_any h.2]
    rfl
theorem star_all {pos : Pos} {env : Env} : ∀ {es : List Expr}, es.all plainX = true → (backTo pos (starEach es env)).all (fun x => !x.1) = true
  | [], _ => rfl
  | e :: es, h => by
    rw [List.all_cons, Bool.and_eq_true] at h
    rw [star_ne h.1]
    show (true && (backTo pos (starEach es env)).all (fun x => !x.1)) = true
    rw [star_all h.2]
    rfl
theorem asg_ne {e : Expr} {es : List Expr} {env : Env} (h : plainX e = true) : assignEach (e :: es) env = (false, assign e env) :: assignEach es env := by
  cases e <;> first | rfl | cases h
theorem asg_len {env : Env} : ∀ {es : List Expr}, es.all plainX = true → (assignEach es env).length = es.length
  | [], _ => rfl
  | e :: es, h => by
    rw [List.all_cons, Bool.and_eq_true] at h
    rw [asg_ne h.1, List.length_cons, List.length_cons, asg_len h.2]
theorem asg_star {env : Env} : ∀ {es : List Expr}, es.all plainX = true → (assignEach es env).findIdx? (·.1) = none
  | [], _ => rfl
  | e :: es, h => by
    rw [List.all_cons, Bool.and_eq_true] at h
    rw [asg_ne h.1, List.findIdx?_cons]
    show (if false = true then some 0 else Option.map (fun i => i + 1) ((assignEach es env).findIdx? (·.1))) = none
    rw [if_neg Bool.false_ne_true, asg_star h.2]
    rfl
def isCall0 : Expr → Bool
  | .Call (.Name _ _) [] [] _ => true
  | _ => false
theorem attr_base {o : Expr} {f : Str} {env : Env} {w : Sem Value} (h : isCall0 o = false) : attributeBase o f env w = w := by
  unfold attributeBase
  split
  · cases h
  · rfl
def notSlice : Expr → Bool
  | .Slice _ _ _ _ => false
  | _ => true
theorem plain_ix {b : Expr} (h : notSlice b = true) : PlainIx b := fun o i => by
  cases b <;> first | rfl | cases h
def notSet : Expr → Bool
  | .Set _ _ _ => false
  | _ => true
theorem folded_no {e : Expr} {env : Env} (h : notSet e = true) : ∀ x, foldedSetIterable e env x = pure x := fun x => by
  cases e <;> first | rfl | cases h
theorem marks_no {op : CmpOp} {e : Expr} (h : notSet e = true) : behindInMarks op e = false := by
  cases e <;> first | rfl | cases h
def isTest : Expr → Bool
  | .UnaryOp .Not _ _ => true
  | .BoolOp _ _ _ => true
  | .IfExp _ _ _ _ => true
  | .Compare _ _ _ _ => true
  | _ => false
theorem isTrue_val {e : Expr} {env : Env} (h : isTest e = false) : ∀ whole, isTrue e env whole = (do let v ← whole; standAt e.pos; holding [v] (truthy v)) := fun whole => by
  cases e with
  | UnaryOp op x p => cases op <;> first | rfl | cases h
  | BoolOp => cases h
  | IfExp => cases h
  | Compare => cases h
  | _ => rfl
def notComp : Expr → Bool
  | .ListComp _ _ _ _ => false
  | .SetComp _ _ _ _ => false
  | .DictComp _ _ _ _ _ => false
  | _ => true
theorem swaps_no {e : Expr} {t : Option Expr} {l : Nat} {env : Env} (h : notComp e = true) : swapsWith e t l env = pure false := by
  cases e <;> first | rfl | cases h
theorem swaps_tg {e t : Expr} {l : Nat} {env : Env} (h : ∀ x p, t ≠ .Name x p) : swapsWith e (some t) l env = pure false := by
  unfold swapsWith
  cases e <;> first | rfl | (cases t <;> first | rfl | exact absurd rfl (h _ _))
def kwOk (ks : List Str) (kws : List Keyword) : Bool := decide (kws.map (·.arg) = ks.map some)
theorem kw_all {pos : Pos} {env : Env} : ∀ {kws : List Keyword} {ks : List Str}, kws.map (·.arg) = ks.map some → (backToKw pos (keywordEach kws env)).all (·.1.isSome) = true ∧ (backToKw pos (keywordEach kws env)).filterMap (·.1) = ks ∧ (backToKw pos (keywordEach kws env)).any (·.1.isNone) = false
  | [], [], _ => ⟨rfl, rfl, rfl⟩
  | [], _ :: _, h => by cases h
  | _ :: _, [], h => by cases h
  | ⟨a, v, p⟩ :: kws, k :: ks, h => by
    have h1 : a = some k := (List.cons.inj h).1
    obtain ⟨i1, i2, i3⟩ := kw_all (pos := pos) (env := env) (List.cons.inj h).2
    subst h1
    refine ⟨?_, ?_, ?_⟩
    · show (true && (backToKw pos (keywordEach kws env)).all (·.1.isSome)) = true
      rw [i1]
      rfl
    · show k :: (backToKw pos (keywordEach kws env)).filterMap (·.1) = k :: ks
      rw [i2]
    · show (false || (backToKw pos (keywordEach kws env)).any (·.1.isNone)) = false
      rw [i3]
      rfl
/-! ### names -/
def idx (N : List Str) (x : Str) : Option Nat := N.findIdx? (· == x)
def visB (sc : Scope) (x : Str) : Bool := match sc.names.lookup x with
  | some .local => true
  | some .cell => true
  | some .free => true
  | _ => false
theorem vis_of {sc : Scope} {x : Str} (h : visB sc x = true) : Vis sc x := by
  unfold visB at h
  split at h
  · exact .inl (by assumption)
  · exact .inr (.inl (by assumption))
  · exact .inr (.inr (by assumption))
  · cases h
def glB (sc : Scope) (x : Str) : Bool := match sc.names.lookup x with
  | some .globalImplicit => true
  | _ => false
theorem gl_of {X : Cx} {sc : Scope} {x : Str} (e : X.env.scope = sc) (h : glB sc x = true) : Gl X x := by
  unfold glB at h
  split at h
  · show X.env.scope.names.lookup x = _
    rw [e]
    assumption
  · cases h
theorem dbg1 {x : Str} (h : dbg x = true) : (x == ("__debug__" : Str)) = false := by
  unfold dbg at h
  rw [Bool.and_eq_true, Bool.and_eq_true] at h
  exact nb h.1.1
theorem dbg2 {x : Str} (h : dbg x = true) : (x == ("__classdict__" : Str)) = false := by
  unfold dbg at h
  rw [Bool.and_eq_true, Bool.and_eq_true] at h
  exact nb h.1.2
theorem dbg3 {x : Str} (h : dbg x = true) : x ≠ "__name__" := fun e => by
  unfold dbg at h
  rw [Bool.and_eq_true, Bool.and_eq_true] at h
  have := nb h.2
  rw [e] at this
  simp at this
theorem look_mem {α β : Type} [BEq α] [LawfulBEq α] : ∀ {l : List (α × β)} {x : α} {v : β}, l.lookup x = some v → (x, v) ∈ l
  | [], _, _, h => by cases h
  | (a, b) :: l, x, v, h => by
    rw [List.lookup_cons] at h
    by_cases e : (x == a) = true
    · rw [e] at h
      cases h
      rw [eq_of_beq e]
      exact List.mem_cons_self
    · have e' : (x == a) = false := by simpa using e
      rw [e'] at h
      exact List.mem_cons_of_mem _ (look_mem h)
end M

set_option Elab.async false
set_option linter.all false
set_option maxRecDepth 100000
set_option maxHeartbeats 4000000
/-! expressions, compiled -/
namespace M
open PySem PySem.Spec PyProof.Rows L2 DL
section
variable {tb : Tb} {k : Nat} {N : List Str} {sc : Scope}
theorem Gd.un {X : Cx} {W : WX} (G : Gd tb k N sc X W) : X.A.units + 230 < cLine := by
  have := G.room.un
  have := G.k2
  omega
theorem Gd.vis {X : Cx} {W : WX} (G : Gd tb k N sc X W) {x : Str} (h : visB sc x = true) : Vis X.env.scope x := by rw [G.es]; exact vis_of h
def cConst (c : Const) (j : Nat) (pos : Pos) : CE tb k N sc (.Constant c j pos) := match c with
  | .none => some ⟨retE .non, fun X W G => pe_retM pe_non fun _ _ _ => .non⟩
  | .bool b => some ⟨retE (.bl b), fun X W G => pe_retM pe_bl fun _ _ _ => .bl b⟩
  | .int i => some ⟨retE (.int i), fun X W G => pe_retM pe_int fun _ _ _ => .int i⟩
  | .str s => some ⟨retE (.str s), fun X W G => pe_retM pe_str fun _ _ _ => .str s⟩
  | _ => none
def cName (x : Str) (pos : Pos) : CE tb k N sc (.Name x pos) :=
  if hv : visB sc x = true ∧ dbg x = true then match h : idx N x with
    | some i => if hi : N[i]? = some x then some ⟨varE i, fun X W G => pe_varM (pe_var (by rw [G.hN]; exact hi) (G.vis hv.1) (dbg1 hv.2) (dbg2 hv.2))⟩ else none
    | none => none
  else if hg : glB sc x = true ∧ dbg x = true then match h : tb.con.lookup x with
    | some v => some ⟨retE v, fun X W G => by
        obtain ⟨u, y, e1, e2, e3⟩ := G.fx.co (x, v) (look_mem h)
        exact pe_retM (pe_glob (gl_of G.es hg.1) e1 e2 (dbg1 hg.2)) e3⟩
    | none => none
  else none
def cBin (a : Expr) (op : Operator) (b : Expr) (pos : Pos) (ra : CE tb k N sc a) (rb : CE tb k N sc b) : CE tb k N sc (.BinOp a op b pos) := match ra, rb with
  | some ⟨f, hf⟩, some ⟨g, hg⟩ => match op with
    | .Add => some ⟨binE (addM (tb.md pos)) f g, fun X W G => pe_opM (OpR.lk op_addA) om_add (hf X W G) (hg X W G)⟩
    | .Sub => some ⟨binE subM f g, fun X W G => pe_opM op_sub om_sub (hf X W G) (hg X W G)⟩
    | .Mult => some ⟨binE (mulM (tb.md pos)) f g, fun X W G => pe_opM (OpR.lk op_mulA) om_mul (hf X W G) (hg X W G)⟩
    | .FloorDiv => some ⟨binE fdivM f g, fun X W G => pe_opM op_fdivA om_fdiv (hf X W G) (hg X W G)⟩
    | .Mod => some ⟨binE modM f g, fun X W G => pe_opM op_modN om_mod (hf X W G) (hg X W G)⟩
    | .Pow => some ⟨binE powM f g, fun X W G => pe_opM op_pow om_pow (hf X W G) (hg X W G)⟩
    | _ => none
  | _, _ => none
def cUn (op : UnaryOp) (a : Expr) (pos : Pos) (ra : CE tb k N sc a) : CE tb k N sc (.UnaryOp op a pos) := match ra with
  | some ⟨f, hf⟩ => match op with
    | .USub => some ⟨unE negM f, fun X W G => pe_unM un_neg um_neg (hf X W G)⟩
    | .Not => some ⟨notE f, fun X W G => pe_notM (hf X W G)⟩
    | _ => none
  | none => none
/-! comparisons -/
/-- an operation of the machine with the rule behind it -/
structure COp (tb : Tb) (k : Nat) (N : List Str) (sc : Scope) (op : CmpOp) where
  o : MV → MV → MH → R MV
  ok : ∀ X W, Gd tb k N sc X W → ∃ r, OpR X (compareOp op) r ∧ OpM X.K tb.F tb.T r o
theorem k1 {X : Cx} {W : WX} (G : Gd tb k N sc X W) : Room ((k - 1) + 1) X.A := by
  have := G.k2
  have e : k - 1 + 1 = k := by omega
  rw [e]
  exact G.room
def cOp : (op : CmpOp) → Option (COp tb k N sc op)
  | .Eq => some ⟨eqK tb.insN (eqA tb.eqs), fun X W G => ⟨_, op_eqA G.fx.eq (k1 G), om_eqA G.fx.kit G.fx.eq⟩⟩
  | .NotEq => some ⟨eqK tb.insN (neA tb.eqs), fun X W G => ⟨_, op_neA G.fx.eq (k1 G), om_neA G.fx.kit G.fx.eq⟩⟩
  | .Lt => some ⟨ltM, fun X W G => ⟨_, op_lt, om_lt⟩⟩
  | .LtE => some ⟨leM, fun X W G => ⟨_, op_le, om_le⟩⟩
  | .Gt => some ⟨gtM, fun X W G => ⟨_, op_gt, om_gt⟩⟩
  | .GtE => some ⟨geM, fun X W G => ⟨_, op_ge, om_ge⟩⟩
  | .Is => some ⟨isNM, fun X W G => ⟨_, op_isN, om_isN⟩⟩
  | .IsNot => some ⟨notNM, fun X W G => ⟨_, op_notN, om_notN⟩⟩
  | .In => some ⟨inM, fun X W G => ⟨_, op_inA (by have := G.un; omega), om_in⟩⟩
  | .NotIn => some ⟨notInM, fun X W G => ⟨_, op_notInA (by have := G.un; omega), om_notIn⟩⟩
def chainE (o1 o2 : MV → MV → MH → R MV) (f g l : EF) : EF := fun μ h => (f μ h).bind fun x h1 => (g μ h1).bind fun y h2 => (o1 x y h2).bind fun c h3 => (isB c h3).bind fun b h4 => if b then (l μ h4).bind fun z h5 => o2 y z h5 else .ok (.bl false) h4
theorem last_no {op op' : CmpOp} {b c : Expr} (h : notSet c = true) : lastMarks [op, op'] [b, c] = false := by
  show behindInMarks op' c = false
  exact marks_no h
theorem chain_ok {X : Cx} {W : WX} {r1 r2 : R2} {o1 o2 : MV → MV → MH → R MV} {f g l : EF} {σ : L2.St} {H : Hp} {Q : VK} (m1 : OpM X.K tb.F tb.T r1 o1) (m2 : OpM X.K tb.F tb.T r2 o2) (w : tE X.K tb.F tb.T tb.O W (chainE o1 o2 f g l) σ H Q) :
    tChain r1 r2 (tE X.K tb.F tb.T tb.O W f) (tE X.K tb.F tb.T tb.O W g) (tE X.K tb.F tb.T tb.O W l) σ H Q := by
  obtain ⟨m, h, μ, s, hr, p⟩ := w
  refine tG.seq s hr p fun x u m1' h1 H1 s1 r1' st1 q1 p1 => tG.seq s1 r1' p1 fun y v m2' h2 H2 s2 r2' st2 q2 p2 => ?_
  have q1' := q1.st st2
  refine m1 W σ m2' h2 H2 _ x y u v r2' q1' q2 ?_
  refine (p2.bind (rl := rlE X.K tb.F)).imp fun z H3 ⟨c, h3, m3, st3, q3, p3⟩ => ?_
  obtain ⟨b, e1, e2, p4⟩ := isB_of q3 p3
  subst e1 e2
  refine ⟨b, rfl, ?_⟩
  cases b with
  | true =>
    rw [if_pos rfl] at p4 ⊢
    exact tG.seq (s2.st st3) st3.hr p4 fun w' wv m5 h5 H5 s5 r5 st5 q5 p5 => m2 W σ m5 h5 H5 Q y w' v wv r5 ((q2.st st3).st st5) q5 p5
  | false =>
    rw [if_neg Bool.false_ne_true] at p4 ⊢
    exact p4.v st3.hr (.bl _)
def cCmp (a : Expr) (ops : List CmpOp) (es : List Expr) (pos : Pos) (c : (e : Expr) → CE tb k N sc e) : CE tb k N sc (.Compare a ops es pos) := match ops, es with
  | [op], [b] => match c a, c b, cOp (tb := tb) (k := k) (N := N) (sc := sc) op with
    | some ⟨f, hf⟩, some ⟨g, hg⟩, some o => if hs : notSet b = true then some ⟨binE o.o f g, fun X W G => by
        obtain ⟨r, h1, h2⟩ := o.ok X W G
        exact pe_cmpM h1 h2 (hf X W G) (hg X W G) (marks_no hs)⟩ else none
    | _, _, _ => none
  | [op, op'], [b, b'] => match c a, c b, c b', cOp (tb := tb) (k := k) (N := N) (sc := sc) op, cOp (tb := tb) (k := k) (N := N) (sc := sc) op' with
    | some ⟨f, hf⟩, some ⟨g, hg⟩, some ⟨l, hl⟩, some o, some o' => if hs : notSet b' = true then some ⟨chainE o.o o'.o f g l, fun X W G => by
        obtain ⟨r, h1, h2⟩ := o.ok X W G
        obtain ⟨r', h1', h2'⟩ := o'.ok X W G
        exact PE.imp (pe_chain h1 h1' (hf X W G) (hg X W G) (hl X W G) (last_no hs)) fun σ H Q w => chain_ok h2 h2' w⟩ else none
    | _, _, _, _, _ => none
  | _, _ => none
/-! tests -/
theorem tt_of {X : Cx} {W : WX} {t : TE} {f : EF} {σ : L2.St} {H : Hp} {Q : Bool → Hp → Prop} (i : ∀ σ H Q, tE X.K tb.F tb.T tb.O W f σ H Q → t σ H Q) (w : tT X.K tb.F tb.T tb.O W (testT f) σ H Q) : tTest t σ H Q := by
  refine i σ H _ ?_
  obtain ⟨m, h, μ, s, hr, p⟩ := w
  exact tG.seq s hr p fun x u m1 h1 H1 s1 r1 st1 q1 p1 => by
    cases x with
    | bl c =>
      cases q1
      exact ⟨c, rfl, p1 m1 H1 c (Stp.refl r1) rfl⟩
    | _ => exact p1.elim
def cTCmp (a : Expr) (ops : List CmpOp) (es : List Expr) (pos : Pos) (c : (e : Expr) → CE tb k N sc e) : CTt tb k N sc (.Compare a ops es pos) := match ops, es with
  | [op], [b] => match c a, c b, cOp (tb := tb) (k := k) (N := N) (sc := sc) op with
    | some ⟨f, hf⟩, some ⟨g, hg⟩, some o => if hs : notSet b = true then some ⟨testT (binE o.o f g), fun X W G => by
        obtain ⟨r, h1, h2⟩ := o.ok X W G
        refine PT.imp (pt_cmpR h1 (hf X W G) (hg X W G) (marks_no hs)) fun σ H Q w => tt_of (fun σ H Q ⟨m, h, μ, s, hr, p⟩ => ?_) w
        exact tG.seq s hr p fun x u m1 h1 H1 s1 r1 st1 q1 p1 => tG.seq s1 r1 p1 fun y v m2 h2' H2 s2 r2 st2 q2 p2 => h2 W σ m2 h2' H2 Q x y u v r2 (q1.st st2) q2 p2⟩ else none
    | _, _, _ => none
  | [op, op'], [b, b'] => match c a, c b, c b', cOp (tb := tb) (k := k) (N := N) (sc := sc) op, cOp (tb := tb) (k := k) (N := N) (sc := sc) op' with
    | some ⟨f, hf⟩, some ⟨g, hg⟩, some ⟨l, hl⟩, some o, some o' => if hs : notSet b' = true then some ⟨testT (chainE o.o o'.o f g l), fun X W G => by
        obtain ⟨r, h1, h2⟩ := o.ok X W G
        obtain ⟨r', h1', h2'⟩ := o'.ok X W G
        exact PT.imp (pt_chain h1 h1' (hf X W G) (hg X W G) (hl X W G) (last_no hs)) fun σ H Q w => tt_of (fun σ H Q w => chain_ok h2 h2' w) w⟩ else none
    | _, _, _, _, _ => none
  | _, _ => none
abbrev CW (tb : Tb) (k : Nat) (N : List Str) (sc : Scope) (e : Expr) := Option { f : TF // WOk tb k N sc e f }
/-- a and b and .., as a test -/
def cAndT (c : (e : Expr) → CTt tb k N sc e) (pos : Pos) : (es : List Expr) → CW tb k N sc (.BoolOp .And es pos)
  | [] => none
  | [a] => match c a with
    | some ⟨f, hf⟩ => some ⟨f, fun X W G => pw_and1 (hf X W G)⟩
    | none => none
  | a :: b :: es => match c a, cAndT c pos (b :: es) with
    | some ⟨f, hf⟩, some ⟨g, hg⟩ => some ⟨andT f g, fun X W G => pw_andM (hf X W G) (hg X W G)⟩
    | _, _ => none
def cOrT (c : (e : Expr) → CTt tb k N sc e) (pos : Pos) : (es : List Expr) → CW tb k N sc (.BoolOp .Or es pos)
  | [] => none
  | [a] => match c a with
    | some ⟨f, hf⟩ => some ⟨f, fun X W G => pw_or1 (hf X W G)⟩
    | none => none
  | a :: b :: es => match c a, cOrT c pos (b :: es) with
    | some ⟨f, hf⟩, some ⟨g, hg⟩ => some ⟨orT f g, fun X W G => pw_orM (hf X W G) (hg X W G)⟩
    | _, _ => none
def cAndE (c : (e : Expr) → CE tb k N sc e) (pos : Pos) : (es : List Expr) → CE tb k N sc (.BoolOp .And es pos)
  | [] => none
  | [a] => match c a with
    | some ⟨f, hf⟩ => some ⟨f, fun X W G => pe_one (hf X W G)⟩
    | none => none
  | a :: b :: es => match c a, cAndE c pos (b :: es) with
    | some ⟨f, hf⟩, some ⟨g, hg⟩ => some ⟨andE f g, fun X W G => pe_andM (hf X W G) (hg X W G)⟩
    | _, _ => none
def cOrE (c : (e : Expr) → CE tb k N sc e) (pos : Pos) : (es : List Expr) → CE tb k N sc (.BoolOp .Or es pos)
  | [] => none
  | [a] => match c a with
    | some ⟨f, hf⟩ => some ⟨f, fun X W G => pe_one (hf X W G)⟩
    | none => none
  | a :: b :: es => match c a, cOrE c pos (b :: es) with
    | some ⟨f, hf⟩, some ⟨g, hg⟩ => some ⟨orE f g, fun X W G => pe_orM (hf X W G) (hg X W G)⟩
    | _, _ => none
def cIf (c a b : Expr) (pos : Pos) (rc : CTt tb k N sc c) (ra : CE tb k N sc a) (rb : CE tb k N sc b) : CE tb k N sc (.IfExp c a b pos) := match rc, ra, rb with
  | some ⟨t, ht⟩, some ⟨f, hf⟩, some ⟨g, hg⟩ => some ⟨ifE t f g, fun X W G => pe_ifM (ht X W G) (hf X W G) (hg X W G)⟩
  | _, _, _ => none
def cAttr (o : Expr) (f : Str) (pos : Pos) (ro : CE tb k N sc o) : CE tb k N sc (.Attribute o f pos) := match ro with
  | some ⟨g, hg⟩ => if h : isCall0 o = false then some ⟨unE (fldM tb.ins tb.ers tb.F f) g, fun X W G => pe_fldM G.fx.ci G.fx.ce (hg X W G) (attr_base h)⟩ else none
  | none => none
/-! rows of arguments -/
def cArgs (c : (e : Expr) → CE tb k N sc e) : (es : List Expr) → CA tb k N sc es
  | [] => some ⟨nilA, fun X W G => pa_nilM⟩
  | e :: es => match c e, cArgs c es with
    | some ⟨f, hf⟩, some ⟨g, hg⟩ => if h : plainX e = true then some ⟨consA f g, fun X W G => pa_consM (hf X W G) (hg X W G) (star_ne h)⟩ else none
    | _, _ => none
def cKws (c : (e : Expr) → CE tb k N sc e) : (es : List Keyword) → CK tb k N sc es
  | [] => some ⟨nilA, fun X W G => pk_nilM⟩
  | ⟨n, e, p⟩ :: es => match c e, cKws c es with
    | some ⟨f, hf⟩, some ⟨g, hg⟩ => some ⟨consA f g, fun X W G => pk_consM (hf X W G) (hg X W G)⟩
    | _, _ => none
def cTup (es : List Expr) (j : Nat) (pos : Pos) (r : CA tb k N sc es) : CE tb k N sc (.Tuple es j pos) := match r with
  | some ⟨f, hf⟩ => some ⟨tupE f, fun X W G => pe_tupM (hf X W G)⟩
  | none => none
def cLst (es : List Expr) (pos : Pos) (r : CA tb k N sc es) : CE tb k N sc (.List es pos) := match r with
  | some ⟨f, hf⟩ => some ⟨lstE (tb.md pos) f, fun X W G => pe_lstM (hf X W G)⟩
  | none => none
def dnewE (md : Bool) : EF := fun _ h => if md then .ok (.ref h.length) (h ++ [.dic []]) else .ok (.dic [] []) h
theorem pe_dnewM {X : Cx} {W : WX} {pos : Pos} {md : Bool} : PE X (.Dict [] [] pos) (tE X.K tb.F tb.T tb.O W (dnewE md)) := PE.impL pe_dnewK fun σ H Q ⟨m, h, μ, s, hr, p⟩ q hq => by
  cases md with
  | true =>
    have st : Stp X.K tb.F tb.T m h.length H (mput m h.length q) (h ++ [.dic []]) (upd H q (.dK [])) := hr.new hq (.inl ⟨[], upd_same, .nil⟩)
    have e := p _ _ (.ref (mput m h.length q h.length)) st (.ref (by rw [List.length_append]; exact Nat.lt_succ_self _))
    rw [mput_at] at e
    exact .inl e
  | false =>
    refine .inr ⟨q, .dK [], rfl, upd_same, trivial, fun od => ?_⟩
    rw [upd_upd]
    have st : Stp X.K tb.F tb.T m h.length H m h (upd H q (.frz od (.dK []))) := hr.aux hq
    exact p m _ _ st (.dic upd_same rfl .nil)
def cDict (ks : List (Option Expr)) (vs : List Expr) (pos : Pos) : CE tb k N sc (.Dict ks vs pos) := match ks, vs with
  | [], [] => some ⟨dnewE (tb.md pos), fun X W G => pe_dnewM⟩
  | _, _ => none
/-! subscripts -/
abbrev OF := ME → MH → R (Option Int)
abbrev rlO : Rel (Option Int) (Option Int) := fun _ _ _ a b => b = a
def noO : OF := fun _ h => .ok none h
def someO (f : EF) : OF := fun μ h => (f μ h).bind fun x h1 => match x with
  | .int i => .ok (some i) h1
  | _ => .bad
def slE (md : Bool) (f : EF) (l u : OF) : EF := fun μ h => (f μ h).bind fun x h1 => (l μ h1).bind fun lo h2 => (u μ h2).bind fun hi h3 => slM md x lo hi h3
def OOk (tb : Tb) (k : Nat) (N : List Str) (sc : Scope) (e : Option Expr) (f : OF) : Prop := ∀ X W, Gd tb k N sc X W → PO X e (tG X.K tb.F tb.T tb.O rlO W f)
theorem po_noneM {X : Cx} {W : WX} : PO X none (tG X.K tb.F tb.T tb.O rlO W noO) := ⟨fun pins s σ H Q I ⟨m, h, μ, sr, hr, p⟩ => po_none.run pins s σ H Q I (p m H none (Stp.refl hr) rfl)⟩
theorem po_someM {X : Cx} {W : WX} {e : Expr} {f : EF} (he : PE X e (tE X.K tb.F tb.T tb.O W f)) : PO X (some e) (tG X.K tb.F tb.T tb.O rlO W (someO f)) := ⟨fun pins s σ H Q I ⟨m, h, μ, sr, hr, p⟩ => (po_some he).run pins s σ H Q I (by
  refine tG.seq sr hr p fun x u m1 h1 H1 s1 r1 st1 q1 p1 => ?_
  cases q1 with
  | int i => exact ⟨i, rfl, p1 m1 H1 _ (Stp.refl r1) rfl⟩
  | _ => exact p1.elim)⟩
theorem sl_fin {X : Cx} {W : WX} {md : Bool} {f : EF} {l u : OF} {σ : L2.St} {H : Hp} {Q : VK} (w : tE X.K tb.F tb.T tb.O W (slE md f l u) σ H Q) : tSl (rSlAll X.K) (tE X.K tb.F tb.T tb.O W f) (tG X.K tb.F tb.T tb.O rlO W l) (tG X.K tb.F tb.T tb.O rlO W u) σ H (lkQ Q) := by
  obtain ⟨m, h, μ, s, hr, p⟩ := w
  refine tG.seq s hr p fun x xu m1 h1 H1 s1 r1 st1 q1 p1 => tG.seq s1 r1 p1 fun lo lo' m2 h2 H2 s2 r2 st2 q2 p2 => tG.seq s2 r2 p2 fun hi hi' m3 h3 H3 s3 r3 st3 q3 p3 => ?_
  cases q2
  cases q3
  exact sl_ok r3 ((q1.st st2).st st3) p3
def cOpt (c : (e : Expr) → CE tb k N sc e) : (e : Option Expr) → Option { f : OF // OOk tb k N sc e f }
  | none => some ⟨noO, fun X W G => po_noneM⟩
  | some e => match c e with
    | some ⟨f, hf⟩ => some ⟨someO f, fun X W G => po_someM (hf X W G)⟩
    | none => none
theorem pe_ixM {X : Cx} {W : WX} {a b : Expr} {f g : EF} {pos : Pos} (hu : X.A.units + 1 < cLine) (ha : PE X a (tE X.K tb.F tb.T tb.O W f)) (hb : PE X b (tE X.K tb.F tb.T tb.O W g)) (hs : PlainIx b) : PE X (.Subscript a b pos) (tE X.K tb.F tb.T tb.O W (binE ixM f g)) :=
  PE.imp (pe_ix (ix_any hu) ha hb hs) fun σ H Q ⟨m, h, μ, s, hr, p⟩ => tG.seq s hr p fun x u m1 h1 H1 s1 r1 st1 q1 p1 => tG.seq s1 r1 p1 fun y v m2 h2 H2 s2 r2 st2 q2 p2 => om_ix W σ m2 h2 H2 Q x y u v r2 (q1.st st2) q2 p2
def cSub (a b : Expr) (pos : Pos) (c : (e : Expr) → CE tb k N sc e) : CE tb k N sc (.Subscript a b pos) := match c a with
  | none => none
  | some ⟨f, hf⟩ => match b with
    | .Slice lo hi none p2 => match cOpt c lo, cOpt c hi with
      | some ⟨l, hl⟩, some ⟨u, hu⟩ => some ⟨slE (tb.md pos) f l u, fun X W G => PE.impL (pe_slice sl_all (hf X W G) (hl X W G) (hu X W G)) fun σ H Q w => sl_fin w⟩
      | _, _ => none
    | b => match c b with
      | some ⟨g, hg⟩ => if hs : notSlice b = true then some ⟨binE ixM f g, fun X W G => pe_ixM (by have := G.un; omega) (hf X W G) (hg X W G) (plain_ix hs)⟩ else none
      | none => none
end
end M

set_option Elab.async false
set_option linter.all false
set_option maxRecDepth 100000
set_option maxHeartbeats 4000000
/-! calls and comprehensions, compiled -/
namespace M
open PySem PySem.Spec PyProof.Rows L2 DL
section
variable {tb : Tb} {k : Nat} {N : List Str} {sc : Scope}
/-! built-ins -/
/-- the rules of the built-ins that are functions, by their id -/
def BOkF (id : String) (o : LF) (gd : Bool) : Prop := ∀ (X : Cx) (F : Flds) (T : List (Addr × Str)), X.calm = true → X.A.units + 230 < cLine → (gd = true → X.A.guards = some []) → ∃ r, CallR X (.builtin id) r ∧ LsM X.K F T r o
def BOkT (ty : String) (o : LF) : Prop := ∀ (X : Cx) (F : Flds) (T : List (Addr × Str)), X.calm = true → X.A.units + 230 < cLine → ∃ r, CallR X (.type ty) r ∧ LsM X.K F T r o
inductive BKind where
  | fn (id : String) (o : LF) (gd : Bool) | ty (t : String) (o : LF)
def BKind.ok : BKind → Prop
  | .fn id o gd => BOkF id o gd
  | .ty t o => BOkT t o
def BKind.val : BKind → Value
  | .fn id _ _ => .builtin id
  | .ty t _ => .type t
def BKind.o : BKind → LF
  | .fn _ o _ => o
  | .ty _ o => o
def BKind.gd : BKind → Bool
  | .fn _ _ g => g
  | .ty _ _ => false
/-- name, how many arguments, what it is -/
def bltT (md : Bool) : List (Str × Nat × BKind) := [("len", 1, .fn "len" lenM false), ("abs", 1, .fn "abs" absM false), ("max", 2, .fn "max" max2M false), ("min", 2, .fn "min" min2M false), ("all", 1, .fn "all" allM false), ("any", 1, .fn "any" anyM false), ("sum", 1, .fn "sum" sumM false), ("repr", 1, .fn "repr" reprM true),
  ("int", 1, .ty "int" int1M), ("list", 1, .ty "list" (listM md)), ("tuple", 1, .ty "tuple" tupM), ("str", 1, .ty "str" strM)]
theorem blt_ok (md : Bool) : ∀ p ∈ bltT md, bootBuiltins p.1 = some p.2.2.val ∧ p.2.2.ok := by
  intro p hp
  simp only [bltT, List.mem_cons, List.not_mem_nil, or_false] at hp
  rcases hp with rfl | rfl | rfl | rfl | rfl | rfl | rfl | rfl | rfl | rfl | rfl | rfl
  · exact ⟨by decide +kernel, fun X F T _ _ _ => ⟨_, call_lenA, lm_len⟩⟩
  · exact ⟨by decide +kernel, fun X F T _ _ _ => ⟨_, call_abs, lm_abs⟩⟩
  · exact ⟨by decide +kernel, fun X F T c _ _ => ⟨_, call_max2 c, lm_max2⟩⟩
  · exact ⟨by decide +kernel, fun X F T c _ _ => ⟨_, call_min2 c, lm_min2⟩⟩
  · exact ⟨by decide +kernel, fun X F T c _ _ => ⟨_, cr_all c, lm_all⟩⟩
  · exact ⟨by decide +kernel, fun X F T c _ _ => ⟨_, cr_any c, lm_any⟩⟩
  · exact ⟨by decide +kernel, fun X F T c _ _ => ⟨_, cr_sum c, lm_sum⟩⟩
  · exact ⟨by decide +kernel, fun X F T _ u g => ⟨_, call_reprD (g rfl) (by omega), lm_repr⟩⟩
  · exact ⟨by decide +kernel, fun X F T _ _ => ⟨_, call_int1, lm_int1⟩⟩
  · exact ⟨(by decide +kernel : bootBuiltins ("list" : Str) = some (.type "list")), fun X F T c _ => ⟨_, CallR.lk (call_listA c), lm_list⟩⟩
  · exact ⟨by decide +kernel, fun X F T _ _ => ⟨_, call_tuple_of, lm_tup⟩⟩
  · exact ⟨by decide +kernel, fun X F T _ _ => ⟨_, call_str_int, lm_str⟩⟩
def findB (md : Bool) (x : Str) (n : Nat) : Option BKind := ((bltT md).find? fun p => p.1 == x && p.2.1 == n).map (·.2.2)
theorem findB_ok {md : Bool} {x : Str} {n : Nat} {b : BKind} (h : findB md x n = some b) : bootBuiltins x = some b.val ∧ b.ok := by
  unfold findB at h
  obtain ⟨p, h1, h2⟩ := Option.map_eq_some_iff.mp h
  have hm := List.mem_of_find?_eq_some h1
  have hp := List.find?_some h1
  rw [Bool.and_eq_true] at hp
  have e : p.1 = x := eq_of_beq hp.1
  subst h2
  rw [← e]
  exact blt_ok md p hm
def cBlt (x : Str) (p : Pos) (es : List Expr) (pos : Pos) (r : CA tb k N sc es) : CE tb k N sc (.Call (.Name x p) es [] pos) := match es, r with
  | e :: es, some ⟨l, hl⟩ => match h : findB (tb.md pos) x (e :: es).length with
    | some b => if hc : (tb.blt.contains x = true ∧ glB sc x = true ∧ dbg x = true) ∧ (b.gd = true → tb.gd = true) ∧ plainX e = true ∧ es.all plainX = true then some ⟨callE b.o l, fun X W G => by
        obtain ⟨h1, h2⟩ := findB_ok h
        obtain ⟨⟨c1, c2, c3⟩, c4, c5, c6⟩ := hc
        have hm := G.fx.bl x (List.contains_iff_mem.mp c1)
        cases b with
        | fn id o gd =>
          obtain ⟨r, r1, r2⟩ := h2 X tb.F tb.T G.calm G.un fun e => G.gu (c4 e)
          exact pe_bltM r1 r2 (gl_of G.es c2) hm h1 (hl X W G) (dbg3 c3) (dbg1 c3) (star_ne c5) (star_any c6)
        | ty t o =>
          obtain ⟨r, r1, r2⟩ := h2 X tb.F tb.T G.calm G.un
          exact pe_tyM r1 r2 (gl_of G.es c2) hm h1 (hl X W G) (dbg3 c3) (dbg1 c3) (star_ne c5) (star_any c6)⟩ else none
    | none => none
  | _, _ => none
/-- gcd and its like: imported built-ins -/
def impT : List (String × Nat × LF) := [("math.gcd", 2, gcdM)]
theorem imp_ok : ∀ p ∈ impT, ∀ (X : Cx) (F : Flds) (T : List (Addr × Str)), ∃ r, CallR X (.builtin p.1) r ∧ LsM X.K F T r p.2.2 := by
  intro p hp
  simp only [impT, List.mem_cons, List.not_mem_nil, or_false] at hp
  subst hp
  exact fun X F T => ⟨_, cr_gcd, lm_gcd⟩
theorem pe_impM {X : Cx} {F : Flds} {T : List (Addr × Str)} {O : Ot} {W : WX} {id : String} {x : Str} {p pos : Pos} {e : Expr} {es : List Expr} {l : AF} {rl : List V → Hp → VK → Prop} {ol : LF} (hc : CallR X (.builtin id) rl) (hl : LsM X.K F T rl ol) (hg : Gl X x) (hm : X.mg x = some (.builtin id)) (ha : PA X (e :: es) (tA X.K F T O W l)) (hdb : (x == ("__debug__" : Str)) = false)
    (he : starEach (e :: es) X.env = (false, eval e X.env) :: starEach es X.env) (hpl : (backTo pos (starEach es X.env)).any (·.1) = false) : PE X (.Call (.Name x p) (e :: es) [] pos) (tE X.K F T O W (callE ol l)) :=
  PE.imp (pe_callBfun hc hg hm ha hdb he hpl) fun σ H Q ⟨m, h, μ, s, hr, p⟩ => tG.seq s hr p fun xs us m1 h1 H1 s1 r1 st1 q1 p1 => hl W σ m1 h1 H1 Q xs us r1 q1 p1
def cImp (x : Str) (p : Pos) (es : List Expr) (pos : Pos) (r : CA tb k N sc es) : CE tb k N sc (.Call (.Name x p) es [] pos) := match es, r with
  | e :: es, some ⟨l, hl⟩ => match h : tb.imp.lookup x with
    | some id => match h2 : impT.lookup id with
      | some (n, o) => if hc : glB sc x = true ∧ dbg x = true ∧ plainX e = true ∧ es.all plainX = true then some ⟨callE o l, fun X W G => by
          obtain ⟨r, r1, r2⟩ := imp_ok (id, n, o) (look_mem h2) X tb.F tb.T
          exact pe_impM r1 r2 (gl_of G.es hc.1) (G.fx.im (x, id) (look_mem h)) (hl X W G) (dbg1 hc.2.1) (star_ne hc.2.2.1) (star_any hc.2.2.2)⟩ else none
      | none => none
    | none => none
  | _, _ => none
/-! isinstance -/
/-- a class by its name -/
def tyOf (tb : Tb) (sc : Scope) (x : Str) : Option TyN := if (tb.insN ++ tb.errN).contains x then some (.own x) else if tb.blt.contains x then (("ValueError" :: bts).find? fun b => Str.ofString b == x).map TyN.bt else none
def btsBoot : Bool := ("ValueError" :: bts).all fun b => decide (bootBuiltins (Str.ofString b) = some (.type b))
theorem btsBoot_ok : btsBoot = true := by decide +kernel
theorem tyOf_ok {X : Cx} {W : WX} {x : Str} {c : TyN} {pos : Pos} (G : Gd tb k N sc X W) (h : tyOf tb sc x = some c) (hg : glB sc x = true ∧ dbg x = true) : PE X (.Name x pos) (tC (tyC X.K c)) := by
  unfold tyOf at h
  split at h
  · rename_i hc
    cases h
    exact pe_glob (gl_of G.es hg.1) (G.fx.cls x (List.contains_iff_mem.mp hc)) rfl (dbg1 hg.2)
  · split at h
    · rename_i hb
      obtain ⟨b, h1, h2⟩ := Option.map_eq_some_iff.mp h
      subst h2
      have e : Str.ofString b = x := eq_of_beq (List.find?_some (p := fun b => Str.ofString b == x) h1)
      have z : bootBuiltins x = some (.type b) := by rw [← e]; exact of_decide_eq_true (List.all_eq_true.mp btsBoot_ok b (List.mem_of_find?_eq_some h1))
      exact pe_bltn (gl_of G.es hg.1) (G.fx.bl x (List.contains_iff_mem.mp hb)) z rfl (dbg3 hg.2) (dbg1 hg.2)
    · cases h
/-- isinstance(x, (list, tuple)): of built-in types alone -/
def isiTN (ins : List Str) (sub : Str → Str → Bool) (cs : List String) : MV → MH → R MV := fun x h => if cs.all (fun c => bts.contains c) && insKn ins h x then .ok (.bl (cs.any fun c => kitR sub (tyM h x) (.bt c))) h else .bad
theorem kitAny_of {K : PySem.W.Frag} {t : Value} {g : String → Bool} : ∀ {cs : List String}, (∀ c ∈ cs, PySem.W.kitOne K t (.type c) = some (g c)) → PySem.W.kitAny K t (cs.map Value.type) = some (cs.any g)
  | [], _ => kitAny_nil
  | c :: cs, h => by
    rw [List.map_cons, List.any_cons]
    refine kitAny_cons (h c List.mem_cons_self) (fun e => ?_) fun e => by rw [e]; rfl
    rw [e, Bool.false_or]
    exact kitAny_of fun d hd => h d (List.mem_cons_of_mem _ hd)
theorem pair_ty : ∀ cs : List String, Paired ClsV (cs.map V.ty) (cs.map Value.type)
  | [] => .nil
  | c :: cs => .cons (.ty c) (pair_ty cs)
theorem isiT_ok {K : PySem.W.Frag} {F : Flds} {T : List (Addr × Str)} {W : WX} {σ : L2.St} {m : Nat → Addr} {h : MH} {H : Hp} {Q : VK} {x : MV} {u : V} {ins es : List Str} {sub : Str → Str → Bool} {cs : List String} {tp : Addr} (kf : KitF K ins es sub) (hr : HR K F T m h H) (r : RV K F H m h.length x u) (ht : H tp = some (.tup (cs.map V.ty))) (p : Po K F T (rlE K F) W m h.length σ H Q (isiTN ins sub cs x h)) : rIsiT K [u, .ref tp] H Q := by
  unfold isiTN at p
  split at p
  · rename_i hc
    rw [Bool.and_eq_true] at hc
    have q := p.v hr (.bl _)
    have l : liveOk ins es h x = true ∧ ∀ C vs, x ≠ .exc C vs := by
      cases x <;> first | exact ⟨hc.2, fun _ _ z => by cases z⟩ | cases hc.2
    have hb : ∀ c ∈ cs, c ∈ bts := fun c h => List.contains_iff_mem.mp (List.all_eq_true.mp hc.1 c h)
    rcases ty_ok kf hr r l.1 with ⟨a, e1, e2, e3⟩ | ⟨C, e1, e2, e3⟩ | ⟨C, a, d, fs, e1, e2, e3, e4, e5⟩
    · rw [e1] at q
      exact ⟨u, tp, _, .type a, _, _, rfl, ht, pair_ty cs, e3, kitAny_of fun c h => kit_ty (of_decide_eq_true (List.all_eq_true.mp (List.all_eq_true.mp bts_ok a e2) c (hb c h))), q⟩
    · rw [e1] at q
      exact ⟨u, tp, _, _, _, _, rfl, ht, pair_ty cs, e3, kitAny_of fun c h => kf.ob C (List.mem_append_left _ e2) c (List.mem_cons_of_mem _ (hb c h)), q⟩
    · exfalso
      cases r with
      | exc => exact l.2 _ _ rfl
      | ref hi =>
        rename_i i
        cases e3
        have ro := hr.obj i h[i] (List.getElem?_eq_getElem hi)
        generalize eo : h[i] = o at ro
        cases o with
        | lst xs => obtain ⟨_, q, _⟩ := ro; rw [q] at e4; cases e4
        | dic xs => rcases ro with ⟨_, q, _⟩ | ⟨_, q⟩ <;> rw [q] at e4 <;> cases e4
        | dicT xs => obtain ⟨_, q, _⟩ := ro; rw [q] at e4; cases e4
        | ins C fs => obtain ⟨_, _, q, _⟩ := ro; rw [q] at e4; cases e4
        | dead =>
          have e6 : h[i]? = some .dead := by rw [List.getElem?_eq_getElem hi, eo]
          have l2 : liveOk ins es h (.ref i) = true := l.1
          unfold liveOk at l2
          dsimp only at l2
          rw [e6] at l2
          cases l2
      | tup h1 h2 => cases e3; rw [h1] at e4; cases e4
      | lst h1 h2 => cases e3; rw [h1] at e4; cases e4
      | dic h1 h2 h3 => cases e3; rw [h1] at e4; cases e4
      | dicT h1 h2 h3 => cases e3; rw [h1] at e4; cases e4
      | ins h1 h2 h3 h4 => cases e3; rw [h1] at e4; cases e4
      | raw _ => cases l.1
      | scr _ _ => cases l.1
      | _ => cases e3
  · exact p.elim
/-- the names of built-in types in a row -/
def tyRow (tb : Tb) (sc : Scope) : List Expr → Option (List String)
  | [] => some []
  | .Name x _ :: es => match tyOf tb sc x, tyRow tb sc es with
    | some (.bt b), some bs => if glB sc x && dbg x then some (b :: bs) else none
    | _, _ => none
  | _ => none
theorem tyRow_ok {X : Cx} {W : WX} (G : Gd tb k N sc X W) : ∀ {es : List Expr} {bs : List String}, tyRow tb sc es = some bs → es.all plainX = true ∧ PA X es (fun σ H Q => Q (bs.map V.ty) H)
  | [], _, h => by
    cases h
    exact ⟨rfl, pa_nil⟩
  | .Name x p :: es, bs, h => by
    unfold tyRow at h
    split at h
    · rename_i b bs' e1 e2
      split at h
      · rename_i hg
        cases h
        rw [Bool.and_eq_true] at hg
        obtain ⟨i1, i2⟩ := tyRow_ok G e2
        exact ⟨by rw [List.all_cons, i1]; rfl, PA.imp (pa_cons (tyOf_ok G e1 hg) i2 (star_ne rfl)) fun σ H Q q => q⟩
      · cases h
    · cases h
def cIsi (p : Pos) (e ce : Expr) (pos : Pos) (r : CE tb k N sc e) : CE tb k N sc (.Call (.Name "isinstance" p) [e, ce] [] pos) := match r with
  | none => none
  | some ⟨f, hf⟩ => if hb : (tb.blt.contains "isinstance" = true ∧ glB sc "isinstance" = true) ∧ plainX e = true then match ce with
    | .Name x px => match h : tyOf tb sc x with
      | some c => if hg : glB sc x = true ∧ dbg x = true then some ⟨unE (isiM tb.insN tb.errN tb.sub c) f, fun X W G => pe_isiM G.fx.kit (hf X W G) (tyOf_ok G h hg) (gl_of G.es hb.1.2) (G.fx.bl _ (List.contains_iff_mem.mp hb.1.1)) (star_ne hb.2) (star_ne rfl) (star_any rfl)⟩ else none
      | none => none
    | .Tuple es j pt => match h : tyRow tb sc es with
      | some bs => if hl : bs.length ≤ 1000 then some ⟨unE (isiTN tb.insN tb.sub bs) f, fun X W G => by
          obtain ⟨i1, i2⟩ := tyRow_ok G h
          refine PE.imp (pe_callB call_isiT (gl_of G.es hb.1.2) (G.fx.bl _ (List.contains_iff_mem.mp hb.1.1)) (by decide +kernel) (pa_cons (hf X W G) (pa_cons (pe_tup i2) pa_nil (star_ne rfl)) (star_ne hb.2)) (he := star_ne hb.2) (hpl := star_any rfl)) fun σ H Q ⟨m, h, μ, s, hr, p⟩ => tG.seq s hr p fun x u m1 h1 H1 s1 r1 st1 q1 p1 => ?_
          refine ⟨by rw [List.length_map]; exact Nat.le_trans hl (by decide), fun q hq => ?_⟩
          have st : Stp X.K tb.F tb.T m1 h1.length H1 m1 h1 (upd H1 q (.tup (bs.map V.ty))) := r1.aux hq
          exact isiT_ok G.fx.kit st.hr (q1.st st) upd_same (Po.st st p1)⟩ else none
      | none => none
    | _ => none
  else none
/-! defs and classes of the module -/
def cCall (x : Str) (p : Pos) (es : List Expr) (kws : List Keyword) (pos : Pos) (ra : CA tb k N sc es) (rk : CK tb k N sc kws) : CE tb k N sc (.Call (.Name x p) es kws pos) :=
  if hg : glB sc x = true ∧ dbg x = true ∧ es.all plainX = true then match es, kws, ra, rk with
    | e :: es, [], some ⟨l, hl⟩, _ => match h : tb.shp.find? fun s => s.nm == x && s.n == (e :: es).length && s.ks == [] with
      | some s => if hs : s.nm = x ∧ s.ks = [] ∧ plainX e = true ∧ es.all plainX = true then some ⟨callE s.o (lenA s.n l), fun X W G => by
          obtain ⟨v, c1, c2, c3⟩ := (G.fx.ca s (List.mem_of_find?_eq_some h)).cal G.room G.gu G.tk
          rw [hs.1] at c1
          rw [hs.2.1] at c3
          exact pe_calPM c3 (gl_of G.es hg.1) c1 c2 (hl X W G) (dbg1 hg.2.1) (star_ne hs.2.2.1) (star_any hs.2.2.2)⟩ else none
      | none => none
    | [], [], _, _ => match h : tb.shp.find? fun s => s.nm == x && s.n == 0 && s.ks == [] with
      | some s => if hs : s.nm = x ∧ s.ks = [] ∧ s.n = 0 then some ⟨callE s.o nilA, fun X W G => by
          obtain ⟨v, c1, c2, c3⟩ := (G.fx.ca s (List.mem_of_find?_eq_some h)).cal G.room G.gu G.tk
          rw [hs.1] at c1
          rw [hs.2.1, hs.2.2] at c3
          exact pe_cal0M c3 (gl_of G.es hg.1) c1 c2 (dbg1 hg.2.1)⟩ else none
      | none => none
    | [], kw :: kws, _, some ⟨l, hl⟩ => match h : tb.shp.find? fun s => s.nm == x && s.n == 0 && kwOk s.ks (kw :: kws) with
      | some s => if hs : s.nm = x ∧ s.n = 0 ∧ (kw :: kws).map (·.arg) = s.ks.map some then some ⟨callE s.o (lenA s.ks.length l), fun X W G => by
          obtain ⟨v, c1, c2, c3⟩ := (G.fx.ca s (List.mem_of_find?_eq_some h)).cal G.room G.gu G.tk
          rw [hs.1] at c1
          rw [hs.2.1] at c3
          obtain ⟨k1, k2, k3⟩ := kw_all (pos := pos) (env := X.env) hs.2.2
          exact pe_calKM c3 (gl_of G.es hg.1) c1 c2 (hl X W G) (dbg1 hg.2.1) k1 k2 (by rw [k3]; rfl)⟩ else none
      | none => none
    | _, _, _, _ => none
  else none
def cThk (x : Str) (p : Pos) (pos : Pos) : CE tb k N sc (.Call (.Name x p) [] [] pos) := match h : tb.thk with
  | some (a, i, f, θ) => if hx : a = x then some ⟨thkE i f θ, fun X W G => by subst hx; exact G.th a i f θ h X.pn X.xe W G.tk p pos⟩ else none
  | none => none
/-! methods of lists -/
def cMeth (o : Expr) (m : Str) (apos : Pos) (es : List Expr) (pos : Pos) (ro : CE tb k N sc o) (ra : CA tb k N sc es) : CE tb k N sc (.Call (.Attribute o m apos) es [] pos) := match ro with
  | none => none
  | some ⟨f, hf⟩ => if hb : isCall0 o = false ∧ (apos.endLine == pos.line) = true then match es, ra with
    | [e], some ⟨l, hl⟩ => if hp : plainX e = true then
        (if hm : m = "append" then some ⟨methE isL appM f l, fun X W G => by subst hm; exact pe_bmL PySem.F.plainAttrs_list PySem.F.slot_list_append PySem.F.type_list_append mt_append mo_app (hf X W G) (hl X W G) (attr_base hb.1) (by rw [star_all (by rw [List.all_cons, hp]; rfl)]; rfl) hb.2 (star_ne hp) (star_any rfl)⟩
        else if hm : m = "pop" then some ⟨methE isL pop1M f l, fun X W G => by subst hm; exact pe_bmL PySem.F.plainAttrs_list PySem.F.slot_list_pop PySem.F.type_list_pop mt_popAt mo_pop1 (hf X W G) (hl X W G) (attr_base hb.1) (by rw [star_all (by rw [List.all_cons, hp]; rfl)]; rfl) hb.2 (star_ne hp) (star_any rfl)⟩
        else if hm : m = "extend" then some ⟨methE isL extM f l, fun X W G => by subst hm; exact pe_bmL PySem.F.plainAttrs_list PySem.F.slot_list_extend PySem.F.type_list_extend mt_extendR mo_ext (hf X W G) (hl X W G) (attr_base hb.1) (by rw [star_all (by rw [List.all_cons, hp]; rfl)]; rfl) hb.2 (star_ne hp) (star_any rfl)⟩
        else if hm : m = "index" then some ⟨methE isL idxM f l, fun X W G => by subst hm; exact pe_bmL PySem.F.plainAttrs_list PySem.F.slot_list_index PySem.F.type_list_index (mt_indexD (by have := G.un; omega)) mo_idx (hf X W G) (hl X W G) (attr_base hb.1) (by rw [star_all (by rw [List.all_cons, hp]; rfl)]; rfl) hb.2 (star_ne hp) (star_any rfl)⟩
        else none)
      else none
    | [], _ => if hm : m = "pop" then some ⟨methE isL popM f nilA, fun X W G => by subst hm; exact pe_bmL0 PySem.F.plainAttrs_list PySem.F.slot_list_pop PySem.F.type_list_pop mt_pop mo_pop (hf X W G) (attr_base hb.1) hb.2⟩ else none
    | _, _ => none
  else none
end
end M

set_option Elab.async false
set_option linter.all false
set_option maxRecDepth 100000
set_option maxHeartbeats 4000000
/-! comprehensions, lambdas handed on, all expressions -/
namespace M
open PySem PySem.Spec PyProof.Rows L2 DL
section
variable {tb : Tb} {k : Nat} {N : List Str} {sc : Scope}
/-! what is walked -/
def cIter (tg e : Expr) (c : (e : Expr) → CE tb k N sc e) : CI tb k N sc tg e := match e with
  | .Call (.Name x p) [a] [] pos => if h : (x = "range" ∧ tb.blt.contains "range" = true ∧ glB sc "range" = true) ∧ plainX a = true then match cArgs c [a] with
      | some ⟨l, hl⟩ => some ⟨rng1It l, fun X W G => by
          obtain ⟨⟨h1, h2, h3⟩, h4⟩ := h
          subst h1
          exact pi_rng1M (gl_of G.es h3) (G.fx.bl _ (List.contains_iff_mem.mp h2)) (hl X W G) (star_ne h4)⟩
      | none => none
    else match c (.Call (.Name x p) [a] [] pos) with
      | some ⟨f, hf⟩ => some ⟨seqIt f, fun X W G => pi_seqM (hf X W G)⟩
      | none => none
  | .Call (.Name x p) [a, b] [] pos => if h : (x = "range" ∧ tb.blt.contains "range" = true ∧ glB sc "range" = true) ∧ plainX a = true ∧ plainX b = true then match cArgs c [a, b] with
      | some ⟨l, hl⟩ => some ⟨rng2It l, fun X W G => by
          obtain ⟨⟨h1, h2, h3⟩, h4, h5⟩ := h
          subst h1
          exact pi_rng2M (gl_of G.es h3) (G.fx.bl _ (List.contains_iff_mem.mp h2)) (hl X W G) (by rw [star_ne h4, star_ne h5]; rfl) (star_ne h5)⟩
      | none => none
    else match c (.Call (.Name x p) [a, b] [] pos) with
      | some ⟨f, hf⟩ => some ⟨seqIt f, fun X W G => pi_seqM (hf X W G)⟩
      | none => none
  | e => match c e with
    | some ⟨f, hf⟩ => some ⟨seqIt f, fun X W G => pi_seqM (hf X W G)⟩
    | none => none
/-! a comprehension's own names -/
def ownOf (N : List Str) (scope : Scope) : List (Str × Nat) := scope.names.filterMap fun p => match p.2 with
  | .local => (idx N p.1).map fun i => (p.1, i)
  | .cell => (idx N p.1).map fun i => (p.1, i)
  | _ => none
def tgName (N : List Str) (scope : Scope) (x : Str) : Option Nat := match idx N x with
  | some i => if N[i]? = some x ∧ (scope.names.lookup x = some .local ∨ scope.names.lookup x = some .cell) then some i else none
  | none => none
theorem tgName_ok {N : List Str} {scope : Scope} {x : Str} {i : Nat} (h : tgName N scope x = some i) : N[i]? = some x ∧ (scope.names.lookup x = some .local ∨ scope.names.lookup x = some .cell) := by
  unfold tgName at h
  split at h
  · split at h
    · rename_i hc
      cases h
      exact hc
    · cases h
  · cases h
def tgNames (N : List Str) (scope : Scope) : List Expr → Option (List Nat)
  | [] => some []
  | .Name x _ :: es => match tgName N scope x, tgNames N scope es with
    | some i, some is => some (i :: is)
    | _, _ => none
  | _ => none
def tgOf (N : List Str) (scope : Scope) : Expr → Option CT
  | .Name x _ => (tgName N scope x).map CT.one
  | .Tuple es _ _ => (tgNames N scope es).map CT.many
  | _ => none
theorem pg_own {X : Cx} {W : WX} (G : Gd tb k N sc X W) {scope : Scope} {x : Str} {i : Nat} {p : Pos} (h : tgName N scope x = some i) (s : Shared) (H : Hp) (C : Addr) (cl : List (Str × Addr)) (fp : List Addr) : PG (X.blk s H scope (compEnvC scope cl C X.env) fp) (.Name x p) (gName i) := by
  obtain ⟨h1, h2⟩ := tgName_ok h
  have e : (X.blk s H scope (compEnvC scope cl C X.env) fp).env.scope = relS scope X.env.scope := rfl
  refine pg_name (by rw [show (X.blk s H scope (compEnvC scope cl C X.env) fp).N = N from G.hN]; exact G.nd) (by rw [show (X.blk s H scope (compEnvC scope cl C X.env) fp).N = N from G.hN]; exact h1) ?_ ?_
  · rw [e]
    rcases h2 with h2 | h2
    · exact .inl (lookup_relS_keep (by decide) h2)
    · exact .inr (lookup_relS_keep (by decide) h2)
  · rcases h2 with h2 | h2
    · exact .inr (by rw [e]; exact lookup_relS_keep (by decide) h2)
    · exact .inl (by show (scope.names.lookup x == some NameKind.cell) = true; rw [h2]; rfl)
theorem pgs_own {X : Cx} {W : WX} (G : Gd tb k N sc X W) {scope : Scope} (s : Shared) (H : Hp) (C : Addr) (cl : List (Str × Addr)) (fp : List Addr) : ∀ {es : List Expr} {is : List Nat}, tgNames N scope es = some is → es.all plainX = true ∧ es.length = is.length ∧ PGs (X.blk s H scope (compEnvC scope cl C X.env) fp) es (gNs is)
  | [], _, h => by
    cases h
    exact ⟨rfl, rfl, pgs_nil⟩
  | .Name x p :: es, is, h => by
    unfold tgNames at h
    split at h
    · rename_i i is' e1 e2
      cases h
      obtain ⟨i1, i2, i3⟩ := pgs_own G s H C cl fp e2
      exact ⟨by rw [List.all_cons, i1]; rfl, by rw [List.length_cons, List.length_cons, i2], pgs_cons (pg_own G e1 s H C cl fp) i3 (by rw [asg_ne rfl]; rfl)⟩
    · cases h
theorem pg_ct {X : Cx} {W : WX} (G : Gd tb k N sc X W) {scope : Scope} {tg : Expr} {c : CT} (h : tgOf N scope tg = some c) (s : Shared) (H : Hp) (C : Addr) (cl : List (Str × Addr)) (fp : List Addr) : PG (X.blk s H scope (compEnvC scope cl C X.env) fp) tg (c.tg X.K) := by
  unfold tgOf at h
  split at h
  · obtain ⟨i, h1, h2⟩ := Option.map_eq_some_iff.mp h
    subst h2
    exact pg_own G h1 s H C cl fp
  · obtain ⟨is, h1, h2⟩ := Option.map_eq_some_iff.mp h
    subst h2
    obtain ⟨i1, i2, i3⟩ := pgs_own G s H C cl fp h1
    refine PG.or (pg_tup (X := X.blk s H scope (compEnvC scope cl C X.env) fp) G.calm i3 ?_ (asg_star i1)) (pg_unl (X := X.blk s H scope (compEnvC scope cl C X.env) fp) G.calm i3 ?_ (asg_star i1))
    · rw [asg_len i1, i2]
    · rw [asg_len i1, i2]
  · cases h
/-- the parts of a comprehension, compiled -/
structure LcP (tb : Tb) (k : Nat) (N : List Str) (sc : Scope) (elt : Expr) (tg iter : Expr) (ifs : List Expr) (scope : Scope) where
  it : IF
  c : CT
  t : TF
  e : EF
  hi : IOk tb k N sc tg iter it
  ht : ∀ X W, Gd tb.blk k N (relS scope sc) X W → PTs X ifs (tT X.K tb.F tb.T tb.O W t)
  he : EOk tb.blk k N (relS scope sc) elt e
  hb : blkC N sc scope (ownOf N scope) = true
  hc : tgOf N scope tg = some c
  ho : ∀ i ∈ c.slots, i ∈ (ownOf N scope).map (·.2)
  hs : notSet iter = true
  hk : scope.kind = .function
theorem pts_yesM {X : Cx} {F : Flds} {T : List (Addr × Str)} {O : Ot} {W : WX} : PTs X [] (tT X.K F T O W yesT) := ⟨fun pins s σ H Q I ⟨m, h, μ, sr, hr, p⟩ => pts_nil.run pins s σ H Q I (p m H true (Stp.refl hr) rfl)⟩
def cLcP (elt tg iter : Expr) (ifs : List Expr) (scope : Scope) (c : (e : Expr) → CE tb k N sc e) (cb : (e : Expr) → CE tb.blk k N (relS scope sc) e) (ct : (e : Expr) → CTt tb.blk k N (relS scope sc) e) : Option (LcP tb k N sc elt tg iter ifs scope) :=
  match cIter tg iter c, cb elt, h3 : tgOf N scope tg with
  | some ⟨it, hi⟩, some ⟨e, he⟩, some cc => if h : (blkC N sc scope (ownOf N scope) = true ∧ (∀ i ∈ cc.slots, i ∈ (ownOf N scope).map (·.2))) ∧ notSet iter = true ∧ scope.kind = .function then match ifs with
      | [] => some ⟨it, cc, yesT, e, hi, fun X W G => pts_yesM, he, h.1.1, h3, h.1.2, h.2.1, h.2.2⟩
      | [t] => match ct t with
        | some ⟨f, hf⟩ => some ⟨it, cc, f, e, hi, fun X W G => pts_one (hf X W G), he, h.1.1, h3, h.1.2, h.2.1, h.2.2⟩
        | none => none
      | _ => none
    else none
  | _, _, _ => none
theorem LcP.pe {elt tg iter : Expr} {ifs : List Expr} {scope : Scope} {pos : Pos} (L : LcP tb k N sc elt tg iter ifs scope) : EOk tb k N sc (.ListComp elt [⟨tg, iter, ifs, 0⟩] scope pos) (lcE (tb.md pos) L.it L.c L.t L.e ((ownOf N scope).map (·.2))) := fun X W G => by
  refine PE.impL (pe_lc G.calm (by rw [G.hN]; exact G.nd) (L.hi X W G) (blkOk_by (own := ownOf N scope) (by rw [G.hN, G.es]; exact L.hb)) (fun s H C cl fp => pg_ct G L.hc s H C cl fp)
    (fun s H C cl fp => L.ht _ W0 (by rw [← G.es]; exact (G.es ▸ G.blk s H scope C cl fp L.hk))) (fun s H C cl fp => L.he _ W0 (G.blk s H scope C cl fp L.hk)) (folded_no L.hs)) fun σ H Q w => lc_ok L.ho w
def cLc (elt : Expr) (gens : List Comprehension) (scope : Scope) (pos : Pos) (c : (e : Expr) → CE tb k N sc e) (cb : (e : Expr) → CE tb.blk k N (relS scope sc) e) (ct : (e : Expr) → CTt tb.blk k N (relS scope sc) e) : CE tb k N sc (.ListComp elt gens scope pos) := match gens with
  | [⟨tg, iter, ifs, 0⟩] => match cLcP elt tg iter ifs scope c cb ct with
    | some L => some ⟨_, L.pe⟩
    | none => none
  | _ => none
/-! list(range(..)), tuple(range(..)) -/
def rgM (a b : Int) : List MV := (List.range (b - a).toNat).map fun i => MV.int (a + (i : Nat))
theorem rgV_rvs {K : PySem.W.Frag} {F : Flds} {H : Hp} {m : Nat → Addr} {n : Nat} {a b : Int} : RVs K F H m n (rgM a b) (rgV a b) := by
  unfold rgM rgV
  generalize List.range (b - a).toNat = l
  induction l with
  | nil => exact .nil
  | cons c l ih => exact .cons (.int _) ih
def rgOkB (a b : Int) : Bool := small62 a && small62 b && decide ((b - a).toNat ≤ 16777216)
theorem rgOkB_ok {a b : Int} (h : rgOkB a b = true) : RgOk a b := by
  unfold rgOkB small62 at h
  simp only [Bool.and_eq_true, decide_eq_true_eq] at h
  exact ⟨h.1.1.1, h.1.1.2, h.1.2.1, h.1.2.2, h.2⟩
def rg1 (k : Int → Int → MH → R MV) : LF
  | [.int j], h => if rgOkB 0 j then k 0 j h else .bad
  | _, _ => .bad
def rg2 (k : Int → Int → MH → R MV) : LF
  | [.int i, .int j], h => if rgOkB i j then k i j h else .bad
  | _, _ => .bad
def lrg (md : Bool) : Int → Int → MH → R MV := fun a b h => mkL md (rgM a b) h
def trg : Int → Int → MH → R MV := fun a b h => .ok (.tup (rgM a b)) h
section
variable {X : Cx} {W : WX} {F : Flds} {T : List (Addr × Str)} {O : Ot} {f g : EF} {Q : VK} {σ : L2.St} {H : Hp} {md : Bool}
theorem lrg_fin {K : PySem.W.Frag} {m : Nat → Addr} {h : MH} {a b : Int} (hr : HR K F T m h H) (p : Po K F T (rlE K F) W m h.length σ H Q (if rgOkB a b then lrg md a b h else .bad)) : RgOk a b ∧ ∀ q, H q = none → lkQ Q (.ref q) (upd H q (.lst (rgV a b))) := by
  split at p
  · rename_i h1
    exact ⟨rgOkB_ok h1, p.mk hr rgV_rvs⟩
  · exact p.elim
theorem trg_fin {K : PySem.W.Frag} {m : Nat → Addr} {h : MH} {a b : Int} (hr : HR K F T m h H) (p : Po K F T (rlE K F) W m h.length σ H Q (if rgOkB a b then trg a b h else .bad)) : RgOk a b ∧ ∀ q, H q = none → lkQ Q (.ref q) (upd H q (.tup (rgV a b))) := by
  split at p
  · rename_i h1
    exact ⟨rgOkB_ok h1, fun q hq => .inl (p.tup hr rgV_rvs q hq)⟩
  · exact p.elim
end
def cLrg (nm : Str) (p1 p2 pos1 pos : Pos) (es : List Expr) (c : (e : Expr) → CE tb k N sc e) : CE tb k N sc (.Call (.Name nm p1) [.Call (.Name "range" p2) es [] pos1] [] pos) :=
  if hb : (tb.blt.contains "range" = true ∧ glB sc "range" = true) ∧ (tb.blt.contains nm = true ∧ glB sc nm = true) then match es with
    | [a] => match c a with
      | some ⟨f, hf⟩ => if ha : plainX a = true then (if hn : nm = "list" then some ⟨callE (rg1 (lrg (tb.md pos))) (consA f nilA), fun X W G => by
          subst hn
          refine PE.impL (pe_listRg G.calm (gl_of G.es hb.2.2) (G.fx.bl _ (List.contains_iff_mem.mp hb.2.1)) (prg_1 (gl_of G.es hb.1.2) (G.fx.bl _ (List.contains_iff_mem.mp hb.1.1)) (hf X W G) (star_ne ha)) (star_ne rfl)) fun σ H Q ⟨m, h, μ, s, hr, p⟩ => ?_
          unfold callE consA nilA at p
          rw [R.bind_assoc] at p
          refine tG.seq s hr p fun x u m1 h1 H1 s1 r1 st1 q1 p1 => ?_
          cases q1 with
          | int j => exact ⟨j, rfl, lrg_fin r1 p1⟩
          | _ => exact p1.elim⟩
        else if hn : nm = "tuple" then some ⟨callE (rg1 trg) (consA f nilA), fun X W G => by
          subst hn
          refine PE.impL (pe_tupRg G.calm (gl_of G.es hb.2.2) (G.fx.bl _ (List.contains_iff_mem.mp hb.2.1)) (prg_1 (gl_of G.es hb.1.2) (G.fx.bl _ (List.contains_iff_mem.mp hb.1.1)) (hf X W G) (star_ne ha)) (star_ne rfl)) fun σ H Q ⟨m, h, μ, s, hr, p⟩ => ?_
          unfold callE consA nilA at p
          rw [R.bind_assoc] at p
          refine tG.seq s hr p fun x u m1 h1 H1 s1 r1 st1 q1 p1 => ?_
          cases q1 with
          | int j => exact ⟨j, rfl, trg_fin r1 p1⟩
          | _ => exact p1.elim⟩ else none) else none
      | none => none
    | [a, b] => match c a, c b with
      | some ⟨f, hf⟩, some ⟨g, hg⟩ => if ha : plainX a = true ∧ plainX b = true then (if hn : nm = "list" then some ⟨callE (rg2 (lrg (tb.md pos))) (consA f (consA g nilA)), fun X W G => by
          subst hn
          refine PE.impL (pe_listRg G.calm (gl_of G.es hb.2.2) (G.fx.bl _ (List.contains_iff_mem.mp hb.2.1)) (prg_2 (gl_of G.es hb.1.2) (G.fx.bl _ (List.contains_iff_mem.mp hb.1.1)) (hf X W G) (hg X W G) (star_ne ha.1) (star_ne ha.2) (by rw [star_ne ha.2]; rfl)) (star_ne rfl)) fun σ H Q ⟨m, h, μ, s, hr, p⟩ => ?_
          unfold callE consA nilA at p
          rw [R.bind_assoc] at p
          refine tG.seq s hr p fun x u m1 h1 H1 s1 r1 st1 q1 p1 => ?_
          rw [R.bind_assoc, R.bind_assoc] at p1
          refine tG.seq s1 r1 p1 fun y v m2 h2 H2 s2 r2 st2 q2 p2 => ?_
          have q1' := q1.st st2
          cases q1' with
          | int i => cases q2 with
            | int j => exact ⟨i, j, rfl, rfl, lrg_fin r2 p2⟩
            | _ => exact p2.elim
          | _ => exact p2.elim⟩ else none) else none
      | _, _ => none
    | _ => none
  else none
end
end M

set_option Elab.async false
set_option linter.all false
set_option maxRecDepth 100000
set_option maxHeartbeats 4000000
/-! lambdas handed to a def -/
namespace M
open PySem PySem.Spec PySem.Calls PyProof.Rows L2 DL LamX
abbrev Dm (H H1 : Hp) : Prop := ∀ a, H a ≠ none → H1 a ≠ none
section
variable {X : Cx} {pins : List (Addr × Obj)} {σ : L2.St} {H HZ : Hp} {s s1 : Shared}
/-- .. and nothing is lost -/
theorem lam_make3 {T : List (Addr × Str)} {c P : Addr} {params : Arguments} {body : Expr} {scope : Scope} {pos : Pos} {E : Value → Shared → Prop} {Q : Value → Shared → Prop} (I : Inv X pins σ H s) (TB : TabB X.base X.mg c P) (hcode : X.env.code = .ref c)
    (hm : (P, X.env.qual ++ "<lambda>") ∈ T) (hu : ∀ p ∈ T, p.1 = P → p.2 = X.env.qual ++ "<lambda>") (hT : Tabs T H) (hdef : defaultsOf params X.env = ([], [])) (hfree : ∀ y ∈ scope.names, y.2 = .free → ∃ c, X.env.cells.lookup y.1 = some c)
    (h : ∀ (f c' : Addr) (pm ctv : Value) (H1 : Hp) (s' : Shared), Inv X pins σ H1 s' → ExtN H H1 → Dm H H1 → Tabs T H1 →
      s'.heap.get? f = some (PySem.W.kla_obj "<lambda>" (X.env.qual ++ "<lambda>") params body scope (cloFrom X.env.cells scope.names []) pm c' ctv) → H1 f = none → f ∉ frs X.stack → H1 c' = some (CodeO c' (X.env.qual ++ "<lambda>")) → Q (.ref f) s') :
    wpAny (model X.prog X.w) X.A (eval (.Lambda params body scope pos) X.env) Q E s := by
  obtain ⟨ps, hP, ht, ha⟩ := hT _ hm
  refine PySem.W.kla_eval hdef ?_
  have bP : s.heap.BuiltinsAt X.mg P := TB.bm.keeps I.bk
  have hP' : s.heap.get? P = some { cls := .none, data := .fields ps } := I.hok P _ hP
  have nofr : ∀ f, s.heap.objs.size ≤ f → f ∉ frs X.stack := fun f hf z => by
    rcases List.mem_cons.mp (I.stkSub _ z) with e | e
    · have h1 := I.lt
      rw [← e] at h1
      exact Nat.lt_irrefl _ (Nat.lt_of_lt_of_le h1 hf)
    · exact I.nofs hf e
  cases hc : codeAmong pos ps.toList with
  | none =>
    refine PySem.W.kla_makeFunction (mg := X.mg) (c := c) (P := P) (ps := ps) (closure_ok hfree) I.ok.glob (I.mod.glob.keeps I.bk) hcode (TB.code.keeps I.bk) hP' ht hc TB.gP bP fun c' ctv h' tk hx hge hlt hrec htb => ?_
    obtain ⟨c2, oc, vs, t, e2, hoc, hd, hv⟩ := hrec
    cases e2
    have hsz : s.heap.objs.size ≤ h'.objs.size := Nat.le_trans hge (Nat.le_of_lt hlt)
    have nC : H c' = none := I.hok.fresh hge
    have I1 := inv_table (t' := tk) (more := #[rawInt pos.line, rawInt pos.col, .ref c']) (h' := h'.push (PySem.W.kla_obj "<lambda>" (X.env.qual ++ "<lambda>") params body scope (cloFrom X.env.cells scope.names []) ((X.mg "__name__").getD .none) c' ctv)) I hP
      (fun b o hb e => Heap.get?_push_of_some _ (hx b o hb e)) (Heap.get?_push_of_some _ htb) hge ⟨oc, vs, t, Heap.get?_push_of_some _ hoc, hd, hv⟩
    have hE : ExtN H (upd (upd H P (.tbl (ps ++ #[rawInt pos.line, rawInt pos.col, .ref c']))) c' (CodeO c' (X.env.qual ++ "<lambda>"))) := fun b o e n => by
      rw [upd_ne (ne_of_none e nC), upd_ne (fun z => n ps (Option.some.inj (e.symm.trans (by rw [z]; exact hP))))]
      exact e
    have eL : (ps ++ #[rawInt pos.line, rawInt pos.col, .ref c']).toList = ps.toList ++ [rawInt pos.line, rawInt pos.col, .ref c'] := by simp
    refine h h'.objs.size c' ((X.mg "__name__").getD .none) ctv _ _ I1 hE (fun a z => upd_live (upd_live z)) (fun p hp => ?_) (Heap.get?_push_size _ rfl) ?_ (nofr _ hsz) upd_same
    · by_cases hb : p.1 = P
      · rw [hu p hp hb, hb]
        refine ⟨_, by rw [upd_ne (ne_of_none hP nC), upd_same], by rw [eL]; exact PySem.TriplesOk_snoc _ _ _ _ ht, fun p' cv hcv => ?_⟩
        rw [eL] at hcv
        rcases among_app _ ht hcv with z | z
        · obtain ⟨c0, e1, e2⟩ := ha p' cv z
          exact ⟨c0, e1, hE _ _ e2 codeO_ne⟩
        · exact ⟨c', z, upd_same⟩
      · obtain ⟨ps', a1, a2, a3⟩ := hT p hp
        refine ⟨ps', by rw [upd_ne (ne_of_none a1 nC), upd_ne hb]; exact a1, a2, fun p' cv hcv => ?_⟩
        obtain ⟨c0, e1, e2⟩ := a3 p' cv hcv
        exact ⟨c0, e1, hE _ _ e2 codeO_ne⟩
    · have n1 : h'.objs.size ≠ c' := Nat.ne_of_gt hlt
      have n2 : h'.objs.size ≠ P := Nat.ne_of_gt (Nat.lt_of_lt_of_le (Heap.lt_size hP') hsz)
      rw [upd_ne n1, upd_ne n2]
      exact I.hok.fresh hsz
  | some cv =>
    obtain ⟨c', e, hco⟩ := ha pos cv hc
    subst e
    refine PySem.W.kla_makeFunctionHit (mg := X.mg) (c := c) (P := P) (ps := ps) (closure_ok hfree) I.ok.glob (I.mod.glob.keeps I.bk) hcode (TB.code.keeps I.bk) hP' ht hc bP fun ctv h' tk hx hsz => ?_
    have I1 : Inv X pins σ H { s with heap := h'.push (PySem.W.kla_obj "<lambda>" (X.env.qual ++ "<lambda>") params body scope (cloFrom X.env.cells scope.names []) ((X.mg "__name__").getD .none) c' ctv), toks := tk } := I.kept fun b o e => Heap.get?_push_of_some _ (hx b o e)
    exact h h'.objs.size c' ((X.mg "__name__").getD .none) ctv H _ I1 (ExtN.refl H) (fun _ z => z) hT (Heap.get?_push_size _ rfl) (I.hok.fresh hsz) (nofr _ hsz) hco
theorem actG {CXg : CXT} {Eg : XK} {Ng : List Str} {qg : Str} {sg : Scope} {g f c' : Addr} {cdg pm ctv : Value} {params : Arguments} {body : Expr} {scope : Scope} {k i : Nat} {a : Str} {pn : List (Addr × Obj)} {xe : Value → Shared → Prop} {W : WX} {E : XK} {tb : TE} {p1 p2 : Pos}
    (I : Inv X pins σ H s) (L : LamS X.env.scope scope) (hf : s.heap.get? f = some (PySem.W.kla_obj "<lambda>" (X.env.qual ++ "<lambda>") params body scope (cloFrom X.env.cells scope.names []) pm c' ctv)) (hfn : H f = none) (hfr : f ∉ frs X.stack)
    (hbind : bindArgs (PySem.W.kla_fn "<lambda>" (X.env.qual ++ "<lambda>") params body scope (cloFrom X.env.cells scope.names []) pm (.ref c') ctv) ⟨[], []⟩ = pure [])
    (tk : Takes ((cxOf CXg X.prog X.w X.K X.mg X.base Ng qg sg g cdg X.A X.stack s H Eg).tr pn xe) W) (hr : Room (k + 1) (X.A.deeper (envOfC qg sg s.heap.objs.size g cdg)))
    (hbody : ∀ (A : Around) (outer : List Env) (s : Shared) (H : Hp), A.guards = X.A.guards → Room k (A.deeper (lamEnv X scope s.heap.objs.size f c')) → PE (lamCx X A outer s H E scope f c') body tb)
    (hN : Ng[i]? = some a) (hv : Vis sg a) (hd : (a == ("__debug__" : Str)) = false) (hcd : (a == ("__classdict__" : Str)) = false) :
    PE ((cxOf CXg X.prog X.w X.K X.mg X.base Ng qg sg g cdg X.A X.stack s H Eg).tr pn xe) (.Call (.Name a p1) [] [] p2)
      (fun σZ HZ Q => σZ[i]? = some (some (.ref f)) ∧ HZ c' = some (CodeO c' (X.env.qual ++ "<lambda>")) ∧ (∀ cls d H', E cls d H' → W cls d σZ H') ∧ tb σ HZ Q) := by
  refine ⟨fun pinsZ sZ σZ HZ Q IZ h => ?_⟩
  obtain ⟨hs, hc, hW, ht⟩ := h
  refine wpAny_Call_Name_kw (thn ((pe_var (pos := p1) (i := i) hN hv hd hcd).run pinsZ sZ σZ HZ (fun v H1 => v = .ref f ∧ H1 = HZ) IZ ⟨.ref f, hs, rfl, rfl⟩) fun u s1 ⟨v, H1, I1, r1, q1⟩ => ?_)
  obtain ⟨ev, eH⟩ := q1
  subst ev
  rw [eH] at I1
  obtain rfl : u = Value.ref f := r1
  have of1 : s1.heap.get? f = some (PySem.W.kla_obj "<lambda>" (X.env.qual ++ "<lambda>") params body scope (cloFrom X.env.cells scope.names []) pm c' ctv) := I1.base.keep f _ hf hfn hfr (fun z => nomatch (show f ∈ ([] : List Addr) from z))
  refine PySem.W.callWith_F0 ⟨_, _, _, _, of1⟩ ?_
  have un : Un (frs X.stack) [] H HZ s.heap s1.heap := I1.base
  obtain ⟨⟨oc, vs, t, hoc, hdc, hvc⟩, _, _⟩ := I1.hok c' _ hc
  have rc : codeAny (model X.prog X.w) (X.A.deeper (envOfC qg sg s.heap.objs.size g cdg)) (.call (.ref f) ⟨[], []⟩) (CR (L2.CX X.prog X.w) (envOfC qg sg s.heap.objs.size g cdg :: X.stack) X.prog X.w HZ s1 Q E) s1 := by
    refine PySem.W.kla_callFunE hr.depth of1 rfl L.co L.gen rfl ⟨c', oc, vs, t, rfl, hoc, hdc, hvc⟩ ?_
    rw [hbind]
    refine wpAny_pure (wpAny_newFunctionEnv (fun y hy => (L.own y hy).2) (fun y hy => absurd (show y ∈ ([] : List (Str × Value)) from hy) (by simp)) (fun h₁ hns hsb => ⟨I1.nolimit.fresh _ hsb, ?_⟩) L.kind)
    show codeAny _ _ (.expr body (lamEnv X scope s1.heap.objs.size f c')) _ _
    have kp : ∀ b o, s1.heap.get? b = some o → h₁.get? b = some o := fun b o e => hsb.extBut b o (Nat.ne_of_lt (Heap.lt_size e)) (Heap.get?_push_of_some _ e)
    have J : Inv (lamCx X (X.A.deeper (envOfC qg sg s.heap.objs.size g cdg)) (envOfC qg sg s.heap.objs.size g cdg :: X.stack) s1 HZ E scope f c') [] σ HZ { s1 with heap := h₁, toks := s1.toks + ([] : List (Str × Value)).length } :=
      lam_start2 I L I1.env0 hr.hd un hns kp
    refine PySem.W.kla_codeExpr (wpAny_mono ((hbody (X.A.deeper (envOfC qg sg s.heap.objs.size g cdg)) _ s1 HZ rfl (hr.deeper _)).run [] _ _ HZ Q J ht) (fun v s' hq => ?_) fun e s' hq => hq)
    obtain ⟨w', H', J', rv, q⟩ := hq
    exact ⟨w', H', J'.os, J'.bare, J'.base, J'.hok, rv, q⟩
  refine wpAny_call (codeAny_mono rc fun r s' hq => ?_)
  cases r with
  | error e => exact tk e s' (XE.of_call I1 hW hq)
  | ok fl =>
    cases fl with
    | ret u => exact I1.after hq
    | next => exact False.elim hq
    | brk => exact False.elim hq
    | cont => exact False.elim hq
end
def tLamG (T : List (Addr × Str)) (TT : (XK → Hp → VK → Prop) → Hp → VK → Prop) (t : XK → TE) : TE := fun σ H Q => Tabs T H ∧ ∀ H1, ExtN H H1 → Dm H H1 → Tabs T H1 → TT (fun E H' Q' => t E σ H' Q') H1 Q
section
variable {X : Cx}
theorem pe_lamG {T : List (Addr × Str)} {TT : (XK → Hp → VK → Prop) → Hp → VK → Prop} {x a : Str} {g c P : Addr} {k : Nat} {pg : Arguments} {bg : List Stmt} {sg : Scope} {dV kV doc pm cdv ct oc : Value} {an od : Option Addr} {osl : Array (Option Value)} {Ng : List Str}
    {params : Arguments} {body : Expr} {scope : Scope} {t : XK → TE} {p lpos pos : Pos} (hg : Gl X x) (hm : X.mg x = some (.ref g)) (hk : PySem.W.keepIn X.K (.ref g) = true)
    (lk : X.K.lookup g = some ⟨oc, od, .func (PySem.W.fnOf x x pg bg sg dV kV doc pm an cdv ct), osl⟩) (hcg : PySem.W.codeIn X.K cdv x = true) (hb : L2.Binds X.K (PySem.W.fnOf x x pg bg sg dV kV doc pm an cdv ct) [a] []) (Sg : FnScope Ng [a] sg) (hNg : Ng[0]? = some a) (hva : Vis sg a)
    (hG : (∀ s : Shared, Room (k + 1) (X.A.deeper (envOfC x sg s.heap.objs.size g cdv))) → GivesW X Ng x sg g cdv bg a (X.env.qual ++ "<lambda>") TT)
    (TB : TabB X.base X.mg c P) (hcode : X.env.code = .ref c) (hmT : (P, X.env.qual ++ "<lambda>") ∈ T) (hu : ∀ p ∈ T, p.1 = P → p.2 = X.env.qual ++ "<lambda>") (hr : Room (k + 2) X.A) (L : LamS X.env.scope scope) (hdef : defaultsOf params X.env = ([], []))
    (hbind : ∀ (q : Str) (cl : List (Str × Addr)) (pm cv ctv : Value), bindArgs (PySem.W.kla_fn "<lambda>" q params body scope cl pm cv ctv) ⟨[], []⟩ = pure [])
    (hbody : ∀ (A : Around) (outer : List Env) (s : Shared) (H : Hp) (E : XK) (f c' : Addr), A.guards = X.A.guards → Room k (A.deeper (lamEnv X scope s.heap.objs.size f c')) → PE (lamCx X A outer s H E scope f c') body (t E))
    (hdb : (x == ("__debug__" : Str)) = false) (hd : (a == ("__debug__" : Str)) = false) (hcd : (a == ("__classdict__" : Str)) = false) :
    PE X (.Call (.Name x p) [.Lambda params body scope lpos] [] pos) (tLamG T TT t) := by
  refine ⟨fun pins s σ H Q I h => ?_⟩
  obtain ⟨hT, h⟩ := h
  refine wpAny_Call_Name_kw (ld_glob I hg hm ?_ hdb)
  refine PySem.W.callWith_K (h₀ := X.base) I.ok.mod.kin hk ?_ (by rfl) (by rfl)
  show wpAny _ _ (spliced ((false, eval (.Lambda params body scope lpos) X.env) :: backTo pos (starEach [] X.env))) _ _ s
  refine Calls.spliced_cons (lam_make3 I TB hcode hmT hu hT hdef (L.has I.ok) fun f c' pm' ctv H1 s' I1 eN dN T1 hf hfn hfr hco => ?_)
  refine Calls.spliced_nil ⟨I1.kIn, ?_⟩
  have rc : codeAny (model X.prog X.w) X.A (.call (.ref g) ⟨[.ref f], []⟩) (CR C8.CX0 X.stack X.prog X.w H1 s' Q C8.E0) s' := by
    refine run_ofS (N := Ng) (ps := [a]) (us := [.ref f]) (vs := [.ref f]) lk hcg Sg hr I1.env0 (hb s' [.ref f] I1.kIn rfl) (.cons rfl .nil) rfl fun hr' => ?_
    obtain ⟨t', ht', hq'⟩ := hG (fun s => hr.deeper _) f c' s' H1 Q (fun E H' Q' => t E σ H' Q') (fun W pn xe E p1 p2 tk => actG (i := 0) I1 L hf hfn hfr (hbind _ _ _ _ _) tk hr' (fun A outer s H ga hr2 => hbody A outer s H E f c' ga hr2) hNg hva hd hcd) hco (h H1 eN dN T1)
    exact ⟨t', ht'.nox, hq'⟩
  refine wpAny_call (codeAny_mono rc fun r s2 hq => ?_)
  cases r with
  | error e => exact (show False from hq).elim
  | ok fl =>
    cases fl with
    | ret u => exact I1.after hq
    | next => exact False.elim hq
    | brk => exact False.elim hq
    | cont => exact False.elim hq
end
/-! ### by the machine -/
def hrdE (o : (MH → R MV) → MH → R MV) (f : EF) : EF := fun μ h => o (f μ) h
section
variable {K : PySem.W.Frag} {F : Flds} {T : List (Addr × Str)} {O : Ot} {W : WX} {m : Nat → Addr} {n : Nat} {h : MH} {σ : L2.St} {H H1 : Hp} {μ : ME}
theorem ext_stp (r : HR K F T m h H) (e : ExtN H H1) (d : Dm H H1) (t : Tabs T H1) : Stp K F T m h.length H m h H1 := by
  have fx : Fix K F H H1 := fun a o z i => e a o z fun ps q => by rw [q] at i; exact i
  refine ⟨Nat.le_refl _, fun _ _ => rfl, fx, ⟨r.inj, fun i o q => ?_, t⟩, d, fun i a b => absurd (Nat.lt_of_lt_of_le b a) (Nat.lt_irrefl _), fun a o z _ n => e a o z n⟩
  have ro := r.obj i o q
  obtain ⟨u, e1, e2⟩ := ro.live
  exact ro.mo fx (fun _ _ => rfl) (Nat.le_refl _) ((e _ _ e1 e2).trans e1.symm)
theorem PoS.ofret {r : RS} {Q : VK} {p : R MV} (h1 : p = .bad ∨ gcR n (retOf r) = p) (w : Po K F T (rlE K F) W m n σ H Q p) : PoS K F T O (fun _ _ _ _ => False) { nx := fun _ H' => Q .non H', rt := Q } m n H r := by
  rcases h1 with h1 | h1
  · rw [h1] at w
    exact w.elim
  · subst h1
    have w := Po.gc w
    cases r with
    | next μ h' => exact fun m' H' σ' s q => w m' H' .non s .non
    | ret v h' => exact w
    | _ => exact w.elim
theorem SR.start {xs : List MV} {vs : List V} {N : List Str} {n0 : Nat} (r : RVs K F H m n0 xs vs) (out : ∀ p ∈ O.fr, SR0 K F H m n0 p.1 p.2) (imm : ∀ p ∈ O.im, Imm K F p.2 ∧ H p.1 = some p.2) : SR K F O H m n0 (startM N.length xs) (L2.start N vs) := by
  refine ⟨?_, fun i v e => ?_, out, imm⟩
  · unfold startM L2.start
    rw [List.length_append, List.length_append, List.length_map, List.length_map, List.length_replicate, List.length_replicate, r.length]
  · unfold startM at e
    unfold L2.start
    rcases Nat.lt_or_ge i xs.length with hi | hi
    · rw [List.getElem?_append_left (by rw [List.length_map]; exact hi), List.getElem?_map] at e
      obtain ⟨a, e1, e2⟩ := Option.map_eq_some_iff.mp e
      cases e2
      obtain ⟨x, e3, e4⟩ := r.get e1
      refine ⟨x, ?_, e4⟩
      rw [List.getElem?_append_left (by rw [List.length_map, r.length]; exact hi), List.getElem?_map, e3]
      rfl
    · rw [List.getElem?_append_right (by rw [List.length_map]; exact hi), List.getElem?_replicate] at e
      split at e <;> cases e
end
section
variable {tb : Tb} {k : Nat} {N : List Str} {sc : Scope}
theorem Gd.lamC {X : Cx} {W : WX} (G : Gd tb k N sc X W) (hl : tb.lam = true) {A : Around} {outer : List Env} {s : Shared} {H : Hp} {E : XK} {scope : Scope} {f c' : Addr} (ga : A.guards = X.A.guards) (hr : Room (k - 2) (A.deeper (lamEnv X scope s.heap.objs.size f c'))) (hk : scope.kind = .function) :
    Gd tb.blk (k - 2) N scope (lamCx X A outer s H E scope f c') (fun cls d _ H' => E cls d H') := by
  obtain ⟨h1, h2, h3⟩ := G.lm hl
  exact ⟨h2, by omega, G.hN, G.nd, rfl, hk, rfl, hr, fun e => (show (A.deeper (lamEnv X scope s.heap.objs.size f c')).guards = some [] from ga.trans (G.gu e)), takes_of (E := E) rfl rfl rfl rfl, (fun _ _ _ _ e => nomatch e), fun e => nomatch e⟩
theorem pe_thkM {X : Cx} {W : WX} (G : Gd tb k N sc X W) (hl : tb.lam = true) {s : Heard} (hs : s ∈ tb.hrd) {body : Expr} {scope : Scope} {f : EF} {params : Arguments} {p lpos pos : Pos} (hg : glB sc s.nm = true) (L : LamS sc scope) (hdef : ∀ env, defaultsOf params env = ([], []))
    (hbind : ∀ (q : Str) (cl : List (Str × Addr)) (pm cv ctv : Value), bindArgs (PySem.W.kla_fn "<lambda>" q params body scope cl pm cv ctv) ⟨[], []⟩ = pure [])
    (hb : EOk tb.blk (k - 2) N scope body f) : PE X (.Call (.Name s.nm p) [.Lambda params body scope lpos] [] pos) (tE X.K tb.F tb.T tb.O W (hrdE s.o f)) := by
  refine ⟨fun pins s0 σ H Q I ⟨m, h, μ, sr, hr, po⟩ => ?_⟩
  obtain ⟨l1, l2, c, Pt, l3, l4, l5, l6⟩ := G.lm hl
  obtain ⟨g, pg, bg, sg, dV, kV, doc, pm, cdv, ct, oc, an, od, osl, Ng, a, sf, j, a1, a2, a3, a4, a5, a6, a7, a8, a9, a10, a11, a12, a13⟩ := G.fx.hd s hs
  have hroom : Room (k - 2 + 2) X.A := by
    have e : k - 2 + 2 = k := by omega
    rw [e]
    exact G.room
  refine (pe_lamG (X := X) (t := fun E => tE X.K tb.F tb.T tb.O (fun cls d _ H' => E cls d H') f) (TT := fun tl H1 Q1 => (∀ E H' Q', tE X.K tb.F tb.T tb.O (fun cls d _ H' => E cls d H') f σ H' Q' → tl E H' Q') ∧ SR X.K tb.F tb.O H1 m h.length μ σ ∧ HR X.K tb.F tb.T m h H1 ∧ Po X.K tb.F tb.T (rlE X.K tb.F) W m h.length σ H1 Q1 (s.o (f μ) h))
    (k := k - 2) (gl_of G.es hg) a1 a2 a3 a4 a5 a6 a7 a8 (fun hrm => ?_) l3 l4 l5 l6 hroom (G.es.symm ▸ L) (hdef _) hbind (fun A outer s1 H1 E f' c' ga hr2 => hb _ _ (G.lamC hl ga hr2 L.kind)) (dbg1 a10) (dbg1 a9) (dbg2 a9)).run pins s0 σ H Q I ⟨hr.tabs, fun H1 e d t => ?_⟩
  · intro f' c' s1 H1 Q1 tl act hc hTT
    obtain ⟨htl, sr1, hr1, po1⟩ := hTT
    refine ⟨_, a12 X.A X.stack s1 H1 ⟨(μ, σ) :: tb.O.fr, (c', CodeO c' (X.env.qual ++ "<lambda>")) :: tb.O.im⟩ f' (f μ) ((hrm s1).mono (by omega)) G.gu (fun W' pn xe tk p1 p2 => ?_), m, h, startM Ng.length [.raw f'], ?_, hr1, ?_⟩
    · refine ⟨fun pinsZ sZ σZ HZ QZ IZ ⟨mZ, hZ, μZ, srZ, hrZ, pZ⟩ => ?_⟩
      unfold thkE at pZ
      split at pZ
      · rename_i b eb
        split at pZ
        · rename_i eq
          subst eq
          obtain ⟨x, e1, e2⟩ := srZ.get 0 _ eb
          cases e2
          have so := srZ.out (μ, σ) List.mem_cons_self
          have si := srZ.imm (c', CodeO c' (X.env.qual ++ "<lambda>")) List.mem_cons_self
          refine (act W' pn xe (fun cls d H' => W' cls d σZ H') p1 p2 tk).run pinsZ sZ σZ HZ QZ IZ ⟨e1, si.2, fun _ _ _ z => z, htl _ _ _ ⟨mZ, hZ, μ, ⟨so.len, so.get, fun q hq => srZ.out q (List.mem_cons_of_mem _ hq), fun q hq => srZ.imm q (List.mem_cons_of_mem _ hq)⟩, hrZ, ?_⟩⟩
          generalize f μ hZ = r at pZ
          cases r with
          | ok a h => exact pZ
          | exc C vs h => exact pZ
          | bad => exact pZ
        · exact pZ.elim
      · exact pZ.elim
    · refine SR.start (.cons (.raw f') .nil) (fun q hq => ?_) fun q hq => ?_
      · rcases List.mem_cons.mp hq with rfl | hq
        · exact ⟨sr1.len, sr1.get⟩
        · exact sr1.out q hq
      · rcases List.mem_cons.mp hq with rfl | hq
        · exact ⟨by show Imm X.K tb.F (CodeO _ _); exact trivial, hc⟩
        · exact sr1.imm q hq
    · exact PoS.ofret (a13 f' (f μ) h) po1
  · have st := ext_stp hr e d t
    exact ⟨fun _ _ _ z => z, sr.st st, st.hr, Po.st st po⟩
def cHrd (x : Str) (p : Pos) (params : Arguments) (body : Expr) (scope : Scope) (lpos pos : Pos) (r : CE tb.blk (k - 2) N scope body) : CE tb k N sc (.Call (.Name x p) [.Lambda params body scope lpos] [] pos) := match params, r with
  | ⟨[], [], none, [], [], none, []⟩, some ⟨f, hf⟩ => match h : tb.hrd.find? fun s => s.nm == x with
    | some s => if hc : (s.nm = x ∧ tb.lam = true) ∧ glB sc x = true ∧ lamSB sc scope = true then some ⟨hrdE s.o f, fun X W G => by
        obtain ⟨⟨c1, c2⟩, c3, c4⟩ := hc
        subst c1
        exact pe_thkM G c2 (List.mem_of_find?_eq_some h) c3 (lamS_by c4) (fun _ => rfl) (fun _ _ _ _ _ => rfl) hf⟩ else none
    | none => none
  | _, _ => none
end
end M

set_option Elab.async false
set_option linter.all false
set_option maxRecDepth 100000
set_option maxHeartbeats 4000000
/-! all expressions, compiled -/
namespace M
open PySem PySem.Spec PyProof.Rows L2 DL
section
variable {tb : Tb} {k : Nat} {N : List Str} {sc : Scope}
def cCallN (x : Str) (p : Pos) (es : List Expr) (kws : List Keyword) (pos : Pos) (c : (e : Expr) → CE tb k N sc e) : CE tb k N sc (.Call (.Name x p) es kws pos) :=
  match cCall x p es kws pos (cArgs c es) (cKws c kws) with
  | some r => some r
  | none => match kws with
    | [] => match cBlt x p es pos (cArgs c es) with
      | some r => some r
      | none => cImp x p es pos (cArgs c es)
    | _ => none
def cCallX (x : Str) (p : Pos) (es : List Expr) (kws : List Keyword) (pos : Pos) (c : (e : Expr) → CE tb k N sc e) (cl : (scope : Scope) → (e : Expr) → CE tb.blk (k - 2) N scope e) : CE tb k N sc (.Call (.Name x p) es kws pos) := match es, kws with
  | [], [] => match cThk x p pos with
    | some r => some r
    | none => cCallN x p [] [] pos c
  | [.Lambda params body scope lpos], [] => cHrd x p params body scope lpos pos (cl scope body)
  | [.Call (.Name y p2) es2 [] pos1], [] => if hy : y = "range" then match cLrg x p p2 pos1 pos es2 c with
      | some ⟨f, hf⟩ => some ⟨f, by subst hy; exact hf⟩
      | none => cCallN x p _ _ pos c
    else cCallN x p _ _ pos c
  | [e, ce], [] => if hx : x = "isinstance" then match cIsi p e ce pos (c e) with
      | some ⟨f, hf⟩ => some ⟨f, by subst hx; exact hf⟩
      | none => none
    else cCallN x p [e, ce] [] pos c
  | es, kws => cCallN x p es kws pos c
end
section
variable {N : List Str}
def cET : (n : Nat) → (tb : Tb) → (k : Nat) → (sc : Scope) → ((e : Expr) → CE tb k N sc e) × ((e : Expr) → CTt tb k N sc e)
  | 0, _, _, _ => (fun _ => none, fun _ => none)
  | n + 1, tb, k, sc => (fun e => match e with
    | .Constant v j pos => cConst v j pos
    | .Name x pos => cName x pos
    | .BinOp a op b pos => cBin a op b pos ((cET n tb k sc).1 a) ((cET n tb k sc).1 b)
    | .UnaryOp op a pos => cUn op a pos ((cET n tb k sc).1 a)
    | .Compare a ops es pos => cCmp a ops es pos (cET n tb k sc).1
    | .BoolOp .And es pos => cAndE (cET n tb k sc).1 pos es
    | .BoolOp .Or es pos => cOrE (cET n tb k sc).1 pos es
    | .IfExp t a b pos => cIf t a b pos ((cET n tb k sc).2 t) ((cET n tb k sc).1 a) ((cET n tb k sc).1 b)
    | .Attribute o f pos => cAttr o f pos ((cET n tb k sc).1 o)
    | .Tuple es j pos => cTup es j pos (cArgs (cET n tb k sc).1 es)
    | .List es pos => cLst es pos (cArgs (cET n tb k sc).1 es)
    | .Dict ks vs pos => cDict ks vs pos
    | .Subscript a b pos => cSub a b pos (cET n tb k sc).1
    | .ListComp elt gens scope pos => cLc elt gens scope pos (cET n tb k sc).1 (cET n tb.blk k (relS scope sc)).1 (cET n tb.blk k (relS scope sc)).2
    | .Call (.Name x p) es kws pos => cCallX x p es kws pos (cET n tb k sc).1 fun scope e => (cET n tb.blk (k - 2) scope).1 e
    | .Call (.Attribute o m apos) es [] pos => cMeth o m apos es pos ((cET n tb k sc).1 o) (cArgs (cET n tb k sc).1 es)
    | _ => none,
   fun e => match e with
    | .UnaryOp .Not a pos => match (cET n tb k sc).2 a with
      | some ⟨f, hf⟩ => some ⟨notT f, fun X W G => pt_notM (hf X W G)⟩
      | none => none
    | .BoolOp .And es pos => match cAndT (cET n tb k sc).2 pos es with
      | some ⟨f, hf⟩ => some ⟨f, fun X W G => (hf X W G).pt⟩
      | none => none
    | .BoolOp .Or es pos => match cOrT (cET n tb k sc).2 pos es with
      | some ⟨f, hf⟩ => some ⟨f, fun X W G => (hf X W G).pt⟩
      | none => none
    | .Compare a ops es pos => cTCmp a ops es pos (cET n tb k sc).1
    | e => match (cET n tb k sc).1 e with
      | some ⟨f, hf⟩ => if h : isTest e = false then some ⟨testT f, fun X W G => pt_of (hf X W G) fun q => pt_val q (isTrue_val h)⟩ else none
      | none => none)
end
end M

set_option Elab.async false
set_option linter.all false
set_option maxRecDepth 100000
set_option maxHeartbeats 4000000
/-! statements, compiled -/
namespace M
open PySem PySem.Spec PyProof.Rows L2 DL
/-! ### a, b = x, y: which stores -/
def bkOf (sc : Scope) : ScopeKind := if sc.kind.isAnnotationScope then .function else sc.kind
def isStarX : Expr → Bool
  | .Starred _ _ => true
  | _ => false
def swNames (sc : Scope) (ts : List Expr) : List Str := ts.filterMap fun
  | .Name id pos => if sc.names.lookup id == some .local && pos.line == (ts.head?.map (·.pos.line)).getD 0 then some id else none
  | _ => none
def swP (sc : Scope) (ts vs : List Expr) : Option (Option (List Str)) :=
  if (!(ts.length == 2 || ts.length == 3) || vs.length != ts.length || bkOf sc != .function) = true then some none
  else if vs.any isStarX = true then some none
  else if ((swNames sc ts).length != ts.length || (swNames sc ts).eraseDups.length != (swNames sc ts).length) = true then some none
  else if vs.all (foldedForSure 8) = true then some none
  else if vs.all (constantsAlone 8) = true then none
  else some (some (swNames sc ts))
theorem sw_eq {ts vs : List Expr} {k k2 : Nat} {p p2 : Pos} {env : Env} : swappedStores [.Tuple ts k p] (.Tuple vs k2 p2) env =
  (if (!(ts.length == 2 || ts.length == 3) || vs.length != ts.length || bkOf env.scope != .function) = true then pure none
  else if vs.any isStarX = true then pure none
  else if ((swNames env.scope ts).length != ts.length || (swNames env.scope ts).eraseDups.length != (swNames env.scope ts).length) = true then pure none
  else if vs.all (foldedForSure 8) = true then pure none
  else if vs.all (constantsAlone 8) = true then (do unsupported "assign.tuple-of-constant-expressions:order-of-the-stores"; pure (some (swNames env.scope ts)))
  else pure (some (swNames env.scope ts))) := rfl
theorem swP_ok {ts vs : List Expr} {k k2 : Nat} {p p2 : Pos} {env : Env} {r : Option (List Str)} (h : swP env.scope ts vs = some r) : swappedStores [.Tuple ts k p] (.Tuple vs k2 p2) env = pure r := by
  rw [sw_eq]
  unfold swP at h
  split at h
  · rename_i c
    cases h
    rw [if_pos c]
  · rename_i c
    rw [if_neg c]
    split at h
    · rename_i c
      cases h
      rw [if_pos c]
    · rename_i c
      rw [if_neg c]
      split at h
      · rename_i c
        cases h
        rw [if_pos c]
      · rename_i c
        rw [if_neg c]
        split at h
        · rename_i c
          cases h
          rw [if_pos c]
        · rename_i c
          rw [if_neg c]
          split at h
          · cases h
          · rename_i c
            cases h
            rw [if_neg c]
def isTupX : Expr → Bool
  | .Tuple _ _ _ => true
  | _ => false
def isRowX : Expr → Bool
  | .Tuple _ _ _ => true
  | .List _ _ => true
  | _ => false
theorem swS_no {t e : Expr} {env : Env} (h : (isRowX t && isTupX e) = false) : swappedStores [t] e env = pure none := by
  unfold swappedStores
  cases t <;> cases e <;> first | rfl | cases h
def swB (sc : Scope) (x : Str) (p vp : Pos) (scope : Scope) : Bool := bkOf sc == .function && sc.names.lookup x == some .local && p.line == vp.line && !(scope.names.any fun (n, k) => n == x && (k == .local || k == .cell))
/-! ### targets -/
theorem sole_of {t e : Expr} {l : Nat} {env : Env} (h : swapsWith e (some t) l env = pure false) : swapsWithSole [t] e l env = pure false := h
theorem sub_plain {o i : Expr} {pos : Pos} {env : Env} (h : notSlice i = true) : ∀ v, assign (.Subscript o i pos) env v = (do
      let ov ← holding [v] (eval o env)
      let iv ← holding [v, ov] (eval i env)
      standAt pos
      holding [v, ov, iv] (setItem ov iv v)
      release [v, ov, iv] []) := fun v => by
  cases i <;> first | rfl | cases h
section
variable {tb : Tb} {k : Nat} {N : List Str} {sc : Scope}
def locB (sc : Scope) (x : Str) : Bool := match sc.names.lookup x with
  | some .local => true
  | some .cell => true
  | _ => false
theorem loc_of {X : Cx} {W : WX} (G : GdS tb k N sc X W) {x : Str} (h : locB sc x = true) : Loc X.env.scope x := by
  rw [G.g.es]
  unfold locB at h
  split at h
  · exact .inl (by assumption)
  · exact .inr (by assumption)
  · cases h
theorem sw_nm {X : Cx} {W : WX} (G : GdS tb k N sc X W) {x : Str} {p pos : Pos} {elt : Expr} {gens : List Comprehension} {scope : Scope} {l : Nat} {b : Bool} (h : swB sc x p pos scope = b) : swapsWith (.ListComp elt gens scope pos) (some (.Name x p)) l X.env = pure b := by
  subst h
  unfold swB
  rw [← G.g.es]
  rfl
def cTg (c : (e : Expr) → CE tb k N sc e) : Nat → (tg : Expr) → CG tb k N sc tg
  | 0, _ => none
  | n + 1, tg => match tg with
    | .Name x p => match idx N x with
      | some i => if h : N[i]? = some x ∧ locB sc x = true then some ⟨nameG i, fun X W G => pg_nameM (pg_name (by rw [G.g.hN]; exact G.g.nd) (by rw [G.g.hN]; exact h.1) (loc_of G h.2) (.inl (G.fn x)))⟩ else none
      | none => none
    | .Subscript o i p => match c o, c i with
      | some ⟨f, hf⟩, some ⟨g, hg⟩ => if h : notSlice i = true then some ⟨subG f g, fun X W G => pg_subM (hf X W G.g) (hg X W G.g) (by have := G.g.un; omega) (sub_plain h)⟩ else none
      | _, _ => none
    | .Tuple es j p =>
      let rec go : (es : List Expr) → CGs tb k N sc es
        | [] => some ⟨nilG, fun X W G => pgs_nilM⟩
        | e :: es => match cTg c n e, go es with
          | some ⟨f, hf⟩, some ⟨g, hg⟩ => if h : plainX e = true then some ⟨consG f g, fun X W G => pgs_consM (hf X W G) (hg X W G) (by rw [asg_ne h]; rfl)⟩ else none
          | _, _ => none
      match go es with
      | some ⟨g, hg⟩ => if h : es.all plainX = true then some ⟨tupG es.length g, fun X W G => pg_tupM (pg_tup G.g.calm (hg X W G) (asg_len h) (asg_star h)) (pg_unl G.g.calm (hg X W G) (asg_len h) (asg_star h))⟩ else none
      | none => none
    | _ => none
def cTgs (c : (e : Expr) → CE tb k N sc e) : (es : List Expr) → CGs tb k N sc es
  | [] => some ⟨nilG, fun X W G => pgs_nilM⟩
  | e :: es => match cTg c 4 e, cTgs c es with
    | some ⟨f, hf⟩, some ⟨g, hg⟩ => if h : plainX e = true then some ⟨consG f g, fun X W G => pgs_consM (hf X W G) (hg X W G) (by rw [asg_ne h]; rfl)⟩ else none
    | _, _ => none
/-! ### statements -/
def locO (sc : Scope) (x : Str) : Bool := match sc.names.lookup x with
  | some .local => true
  | _ => false
theorem locO_ok {X : Cx} {W : WX} (G : GdS tb k N sc X W) {x : Str} (h : locO sc x = true) : X.env.scope.names.lookup x = some .local := by
  rw [G.g.es]
  unfold locO at h
  split at h
  · assumption
  · cases h
/-- a, b = x, y -/
def cPar (ts : List Expr) (n : Nat) (p1 : Pos) (vs : List Expr) (k2 : Nat) (p2 pos : Pos) (c : (e : Expr) → CE tb k N sc e) : CS tb k N sc (.Assign [.Tuple ts n p1] (.Tuple vs k2 p2) pos) := match cArgs c vs, swP sc ts vs with
  | some ⟨l, hl⟩, some none => match cTgs c ts with
    | some ⟨g, hg⟩ => if h : ts.all plainX = true ∧ swP sc ts vs = some none then some ⟨parS ts.length l g, fun X W G => PS.imp (ps_asg (pe_tup (hl X W G.g)) (pg_tup G.g.calm (hg X W G) (asg_len h.1) (asg_star h.1)) rfl (swP_ok (by rw [G.g.es]; exact h.2)) rfl) fun D σ H w => parT_ok w⟩ else none
    | none => none
  | some ⟨l, hl⟩, some (some _) => match ts, vs with
    | [.Name x px, .Name y py], [a, b] => match idx N x, idx N y with
      | some i, some j => if h : (swP sc [.Name x px, .Name y py] [a, b] = some (some [x, y]) ∧ N[i]? = some x ∧ N[j]? = some y) ∧ i ≠ j ∧ locO sc x = true ∧ locO sc y = true then some ⟨parS 2 l (consG (nameG i) (consG (nameG j) nilG)), fun X W G => by
          obtain ⟨⟨h1, h2, h3⟩, h4, h5, h6⟩ := h
          exact PS.imp (ps_par G.g.calm (by rw [G.g.hN]; exact G.g.nd) (by rw [G.g.hN]; exact h2) (by rw [G.g.hN]; exact h3) h4 (locO_ok G h5) (locO_ok G h6) (hl X W G.g) (swP_ok (by rw [G.g.es]; exact h1)) rfl) fun D σ H w => par2_ok w⟩ else none
      | _, _ => none
    | [.Name x px, .Name y py, .Name z pz], [a, b, d] => match idx N x, idx N y, idx N z with
      | some i, some j, some q => if h : (swP sc [.Name x px, .Name y py, .Name z pz] [a, b, d] = some (some [x, y, z]) ∧ N[i]? = some x ∧ N[j]? = some y ∧ N[q]? = some z) ∧ (i ≠ j ∧ i ≠ q ∧ j ≠ q) ∧ locO sc x = true ∧ locO sc y = true ∧ locO sc z = true then some ⟨parS 3 l (consG (nameG i) (consG (nameG j) (consG (nameG q) nilG))), fun X W G => by
          obtain ⟨⟨h1, h2, h3, h3'⟩, ⟨h4, h4', h4''⟩, h5, h6, h7⟩ := h
          exact PS.imp (ps_par3 G.g.calm (by rw [G.g.hN]; exact G.g.nd) (by rw [G.g.hN]; exact h2) (by rw [G.g.hN]; exact h3) (by rw [G.g.hN]; exact h3') h4 h4' h4'' (locO_ok G h5) (locO_ok G h6) (locO_ok G h7) (hl X W G.g) (swP_ok (by rw [G.g.es]; exact h1)) rfl) fun D σ H w => par3_ok w⟩ else none
      | _, _, _ => none
    | _, _ => none
  | _, _ => none
theorem asg_fin {X : Cx} {F : Flds} {T : List (Addr × Str)} {O : Ot} {W : WX} {f : EF} {i : Nat} {D : Ends} {σ : L2.St} {H : Hp} {t : TE} (ht : ∀ σ H Q, tE X.K F T O W f σ H Q → t σ H (lkQ Q)) (w : tS X.K F T O W (asgS f (nameG i)) D σ H) : tAsg (fun σ H Q => t σ H (lkQ Q)) (gName i) D σ H := by
  obtain ⟨m, h, μ, s, hr, p⟩ := w
  exact ht _ _ _ (PoS.ex s hr p fun x u m1 h1 H1 s1 r1 st1 q1 p1 => (p1.only (D' := D) fun _ _ z => z) m1 H1 _ (Stp.refl r1) (s1.set q1 i))
theorem ps_setLk {X : Cx} {t : TE} {i : Nat} {st : Stmt} (h : PS X st (tAsg t (gName i))) (hi : i < X.N.length) : PS X st (tAsg (fun σ H Q => t σ H (lkQ Q)) (gName i)) := ⟨fun pins s σ H D I w => by
  have hl : i < σ.length := by rw [I.len]; exact hi
  let Q : VK := fun x H1 => D.nx (σ.set i (some x)) H1
  let D2 : Ends := { nx := fun σ' H' => ∃ v, σ' = σ.set i (some v) ∧ lkQ Q v H', rt := D.rt, bk := D.bk, ct := D.ct }
  have e : (fun x H1 => D2.nx (σ.set i (some x)) H1) = lkQ Q := by
    funext x H1
    apply propext
    constructor
    · rintro ⟨v, e1, e2⟩
      have : (σ.set i (some x))[i]? = (σ.set i (some v))[i]? := by rw [e1]
      rw [List.getElem?_set_self hl, List.getElem?_set_self hl] at this
      cases this
      exact e2
    · exact fun z => ⟨x, rfl, z⟩
  have w2 : t σ H (fun x H1 => D2.nx (σ.set i (some x)) H1) := by
    rw [e]
    exact w
  refine thn (h.run pins s σ H D2 I w2) fun f s1 q => ?_
  cases f with
  | next =>
    obtain ⟨σ', H', I', v, e1, q⟩ := q
    subst e1
    rcases q with q | ⟨d, u, e2, hd, mu, q⟩
    · exact ⟨_, H', I', q⟩
    · obtain ⟨od, I2⟩ := I'.lock hd mu
      exact ⟨_, _, I2, q od⟩
  | brk => exact q
  | cont => exact q
  | ret v => exact q⟩
/-- x = e -/
def cSet (x : Str) (p : Pos) (e : Expr) (pos : Pos) (c : (e : Expr) → CE tb k N sc e) (clc : (elt tg iter : Expr) → (ifs : List Expr) → (scope : Scope) → Option (LcP tb k N sc elt tg iter ifs scope)) : CS tb k N sc (.Assign [.Name x p] e pos) := match idx N x with
  | none => none
  | some i => if h : N[i]? = some x ∧ locB sc x = true then match e with
    | .ListComp elt [⟨tg, iter, ifs, 0⟩] scope cpos => match clc elt tg iter ifs scope with
      | some L => if hs : swB sc x p cpos scope = true ∧ locO sc x = true then some ⟨asgS (lcE (tb.md cpos) L.it L.c L.t L.e ((ownOf N scope).map (·.2))) (nameG i), fun X W G => by
          have hy : X.N[i]? = some x := by rw [G.g.hN]; exact h.1
          refine PS.imp (ps_setLk (ps_setLc G.g.calm (by rw [G.g.hN]; exact G.g.nd) hy (locO_ok G hs.2) (sw_nm G hs.1) (L.hi X W G.g) (blkOk_by (own := ownOf N scope) (by rw [G.g.hN, G.g.es]; exact L.hb)) (fun s H C cl fp => pg_ct G.g L.hc s H C cl fp)
            (fun s H C cl fp => L.ht _ W0 (G.g.blk s H scope C cl fp L.hk)) (fun s H C cl fp => L.he _ W0 (G.g.blk s H scope C cl fp L.hk)) (folded_no L.hs)) (List.getElem?_eq_some_iff.mp hy).1) fun D σ H w => asg_fin (fun σ H Q w => lc_ok L.ho w) w⟩
        else if hs : swB sc x p cpos scope = false then some ⟨asgS (lcE (tb.md cpos) L.it L.c L.t L.e ((ownOf N scope).map (·.2))) (nameG i), fun X W G => ps_asgM (L.pe X W G.g) (pg_nameM (pg_name (by rw [G.g.hN]; exact G.g.nd) (by rw [G.g.hN]; exact h.1) (loc_of G h.2) (.inl (G.fn x)))) (sole_of (sw_nm G hs)) (swS_no rfl) rfl⟩ else none
      | none => none
    | e => match c e with
      | some ⟨f, hf⟩ => if hn : notComp e = true then some ⟨asgS f (nameG i), fun X W G => ps_asgM (hf X W G.g) (pg_nameM (pg_name (by rw [G.g.hN]; exact G.g.nd) (by rw [G.g.hN]; exact h.1) (loc_of G h.2) (.inl (G.fn x)))) (sole_of (swaps_no hn)) (swS_no rfl) rfl⟩ else none
      | none => none
    else none
/-- t = e, for other targets -/
def cAsg (tg e : Expr) (pos : Pos) (c : (e : Expr) → CE tb k N sc e) : CS tb k N sc (.Assign [tg] e pos) := match tg with
  | .Attribute o f p => match c o, c e with
    | some ⟨fo, ho⟩, some ⟨fv, hv⟩ => some ⟨fldS tb.ins tb.F f fo fv, fun X W G => ps_fldM G.g.fx.ci G.g.fx.gi (ho X W G.g) (hv X W G.g) (swaps_tg fun _ _ z => by cases z)⟩
    | _, _ => none
  | .Subscript o i p => match cTg c 1 (.Subscript o i p), c e with
    | some ⟨g, hg⟩, some ⟨f, hf⟩ => some ⟨asgS f g, fun X W G => ps_asgM (hf X W G.g) (hg X W G) (sole_of (swaps_tg fun _ _ z => by cases z)) (swS_no rfl) rfl⟩
    | _, _ => none
  | .Tuple ts n p => match cTg c 4 (.Tuple ts n p), c e with
    | some ⟨g, hg⟩, some ⟨f, hf⟩ => if hn : isTupX e = false then some ⟨asgS f g, fun X W G => ps_asgM (hf X W G.g) (hg X W G) (sole_of (swaps_tg fun _ _ z => by cases z)) (swS_no (by rw [hn]; rfl)) rfl⟩ else none
    | _, _ => none
  | _ => none
def frzsS : List Nat → SF → SF
  | [], f => f
  | i :: is, f => frzS i (frzsS is f)
theorem ps_frzsM {X : Cx} {F : Flds} {T : List (Addr × Str)} {O : Ot} {W : WX} {st : Stmt} {f : SF} (h : PS X st (tS X.K F T O W f)) : ∀ is : List Nat, PS X st (tS X.K F T O W (frzsS is f))
  | [] => h
  | i :: is => ps_frzM (ps_frzsM h is)
def frzdsS : List Nat → SF → SF
  | [], f => f
  | i :: is, f => match Nat.ble 1000 i with
    | true => frzCS (i - 1000) (frzdsS is f)
    | false => frzDS i (frzdsS is f)
theorem ps_frzdsM {X : Cx} {F : Flds} {T : List (Addr × Str)} {O : Ot} {W : WX} {st : Stmt} {f : SF} (h : PS X st (tS X.K F T O W f)) : ∀ is : List Nat, PS X st (tS X.K F T O W (frzdsS is f))
  | [] => h
  | i :: is => by
    unfold frzdsS
    split
    · exact ps_frzCM (ps_frzdsM h is)
    · exact ps_frzDM (ps_frzdsM h is)
def frA (tb : Tb) (pos : Pos) (f : SF) : SF := frzsS (tb.frz pos) (frzdsS (tb.frd pos) f)
theorem ps_frA {X : Cx} {F : Flds} {T : List (Addr × Str)} {O : Ot} {W : WX} {st : Stmt} {f : SF} {tb : Tb} {pos : Pos} (h : PS X st (tS X.K F T O W f)) : PS X st (tS X.K F T O W (frA tb pos f)) := ps_frzsM (ps_frzdsM h _) _
def cBl (c : (st : Stmt) → CS tb k N sc st) : (sts : List Stmt) → CB tb k N sc sts
  | [] => some ⟨skipS, fun X W G => pss_nilM⟩
  | [s] => match c s with
    | some ⟨f, hf⟩ => some ⟨f, fun X W G => pss_oneM (hf X W G)⟩
    | none => none
  | s :: r :: rest => match c s, cBl c (r :: rest) with
    | some ⟨f, hf⟩, some ⟨g, hg⟩ => some ⟨seqS f g, fun X W G => pss_consM (hf X W G) (hg X W G)⟩
    | _, _ => none
theorem GdS.tr {X : Cx} {W W' : WX} (G : GdS tb k N sc X W) {pn : List (Addr × Obj)} {xe : Value → Shared → Prop} (tk : Takes (X.tr pn xe) W') (hp : PassesOwn (model X.prog X.w) X.A X.env xe) : GdS tb k N sc (X.tr pn xe) W' :=
  ⟨⟨G.g.fx, G.g.k2, G.g.hN, G.g.nd, G.g.es, G.g.kd, G.g.calm, G.g.room, G.g.gu, tk, G.g.th, G.g.lm⟩, G.stk, G.fr, G.ex, G.fn, hp⟩
/-- try: .. except X as n: m = n -/
def cTry (body : List Stmt) (x : Str) (np : Pos) (n : Str) (n2 : Str) (p1 : Pos) (n3 : Str) (p2 p3 pos' pos : Pos) (rb : CB tb k N sc body) : CS tb k N sc (.Try body [.ExceptHandler (some (.Name x np)) (some n) [.Assign [.Name n2 p1] (.Name n3 p2) p3] pos'] [] [] pos) := match rb, idx N n, idx N n2 with
  | some ⟨f, hf⟩, some i, some j => if h : ((n3 = n ∧ tb.top = some x) ∧ N[i]? = some n ∧ N[j]? = some n2) ∧ (locO sc n = true ∧ locO sc n2 = true) ∧ glB sc x = true ∧ dbg x = true ∧ dbg n = true then some ⟨afterS tb.thkI (tryS tb.errN i j f), fun X W G => by
      refine ps_aftM ?_
      obtain ⟨⟨⟨h1, h2⟩, h3, h4⟩, ⟨h5, h6⟩, h7, h8, h9⟩ := h
      subst h1
      obtain ⟨t1, t2⟩ := G.g.fx.tp x h2
      exact ps_tryM G.stk G.fr (by rw [G.g.hN]; exact G.g.nd) (by rw [G.g.hN]; exact h3) (locO_ok G h5) (by rw [G.g.hN]; exact h4) (locO_ok G h6) ⟨gl_of G.g.es h7, dbg1 h8, .inl t1⟩ G.g.tk G.ex t2 (dbg1 h9) (dbg2 h9) fun W' pn xe tk hp => hf _ _ (G.tr tk hp)⟩ else none
  | _, _, _ => none
def cRaise (x : Str) (p : Pos) (es : List Expr) (pos pos2 : Pos) (c : (e : Expr) → CE tb k N sc e) : CS tb k N sc (.Raise (some (.Call (.Name x p) es [] pos)) none pos2) := match es with
  | [e] => match c e with
    | some ⟨f, hf⟩ => match h : tb.rai.lookup x with
      | some fl => if hc : glB sc x = true ∧ dbg x = true ∧ plainX e = true then some ⟨rzS x f, fun X W G => by
          obtain ⟨r1, r2⟩ := G.g.fx.rz (x, fl) (look_mem h)
          exact ps_rzM G.g.calm r1 r2 G.g.room G.g.k2 G.g.tk (hf X W G.g) (gl_of G.g.es hc.1) (dbg1 hc.2.1) (star_ne hc.2.2) (star_any rfl)⟩ else none
      | none => none
    | none => none
  | _ => none
end
section
variable {tb : Tb} {k : Nat} {N : List Str} {sc : Scope}
def cSt (n : Nat) : (m : Nat) → (st : Stmt) → CS tb k N sc st
  | 0, _ => none
  | m + 1, st => match st with
    | .Expr e pos => match (cET n tb k sc).1 e with
      | some ⟨f, hf⟩ => if h : notComp e = true then some ⟨frA tb pos (exprS f), fun X W G => ps_frA (ps_exprM (hf X W G.g) (swaps_no h))⟩ else none
      | none => none
    | .Return (some e) pos => match (cET n tb k sc).1 e with
      | some ⟨f, hf⟩ => some ⟨frA tb pos (retS f), fun X W G => ps_frA (ps_retM (hf X W G.g))⟩
      | none => none
    | .Return none pos => some ⟨retN, fun X W G => ps_retNM⟩
    | .Pass pos => some ⟨skipS, fun X W G => ps_passM⟩
    | .Break pos => some ⟨brkS, fun X W G => ps_breakM⟩
    | .Continue pos => some ⟨cntS, fun X W G => ps_contM⟩
    | .If t a b pos => match (cET n tb k sc).2 t, cBl (cSt n m) a, cBl (cSt n m) b with
      | some ⟨f, hf⟩, some ⟨g, hg⟩, some ⟨l, hl⟩ => some ⟨frA tb pos (ifS f g l), fun X W G => ps_frA (ps_ifM (hf X W G.g) (hg X W G) (hl X W G))⟩
      | _, _, _ => none
    | .Assign [.Name x p] e pos => match cSet x p e pos (cET n tb k sc).1 (fun elt tg iter ifs scope => cLcP elt tg iter ifs scope (cET n tb k sc).1 (cET n tb.blk k (relS scope sc)).1 (cET n tb.blk k (relS scope sc)).2) with
      | some ⟨f, hf⟩ => some ⟨frA tb pos f, fun X W G => ps_frA (hf X W G)⟩
      | none => none
    | .Assign [.Tuple ts j p1] (.Tuple vs k2 p2) pos => match cPar ts j p1 vs k2 p2 pos (cET n tb k sc).1 with
      | some ⟨f, hf⟩ => some ⟨frA tb pos f, fun X W G => ps_frA (hf X W G)⟩
      | none => none
    | .Assign [tg] e pos => match cAsg tg e pos (cET n tb k sc).1 with
      | some ⟨f, hf⟩ => some ⟨frA tb pos f, fun X W G => ps_frA (hf X W G)⟩
      | none => none
    | .For tg iter body [] pos => match cIter tg iter (cET n tb k sc).1, cTg (cET n tb k sc).1 4 tg, cBl (cSt n m) body with
      | some ⟨f, hf⟩, some ⟨g, hg⟩, some ⟨l, hl⟩ => if h : notSet iter = true then some ⟨frA tb pos (forS (tb.cls pos) f g l), fun X W G => ps_frA (ps_forM G.ps G.g.calm (hf X W G.g) (hg X W G) (hl X W G) (folded_no h))⟩ else none
      | _, _, _ => none
    | .While t body [] pos => match (cET n tb k sc).2 t, cBl (cSt n m) body with
      | some ⟨f, hf⟩, some ⟨l, hl⟩ => some ⟨frA tb pos (whileS (tb.cls pos) f l), fun X W G => ps_frA (ps_whileM G.ps (hf X W G.g) (hl X W G))⟩
      | _, _ => none
    | .Raise (some (.Call (.Name x p) es [] pos)) none pos2 => match cRaise x p es pos pos2 (cET n tb k sc).1 with
      | some ⟨f, hf⟩ => some ⟨frA tb pos2 f, fun X W G => ps_frA (hf X W G)⟩
      | none => none
    | .Try body [.ExceptHandler (some (.Name x np)) (some nn) [.Assign [.Name n2 p1] (.Name n3 p2) p3] pos'] [] [] pos => cTry body x np nn n2 p1 n3 p2 p3 pos' pos (cBl (cSt n m) body)
    | _ => none
/-- a def's body -/
def cBody (tb : Tb) (k : Nat) (N : List Str) (sc : Scope) (sts : List Stmt) : CB tb k N sc sts := cBl (cSt 40 12) sts
end
end M

set_option Elab.async false
set_option linter.all false
set_option maxRecDepth 100000
set_option maxHeartbeats 4000000
/-! defs, as the machine has them -/
namespace M
open PySem PySem.Spec PyProof.Rows L2 DL
/-- what a body hands back -/
def outR : RS → R MV
  | .ret v h => .ok v h
  | .next _ h => .ok .non h
  | .exc C vs _ h => .exc C vs h
  | _ => .bad
def bodyM (n : Nat) (sf : SF) : LF := fun xs h => outR (sf (startM n xs) h)
/-- a def's function -/
def defM (n : Nat) (sf : SF) : LF := gc (bodyM n sf)
section
variable {P : Program} {w : World} {K : PySem.W.Frag} {mg : Str → Option Value} {base : Heap} {tb : Tb} {k : Nat} {N ps : List Str} {scope : Scope} {body : List Stmt} {sf : SF} {x qual : Str} {params : Arguments} {dvs : List V} {f : Addr} {fd : FuncData}
/-- what a def with lambdas in it wants -/
def LamF (P : Program) (w : World) (K : PySem.W.Frag) (mg : Str → Option Value) (base : Heap) (tb : Tb) (k : Nat) (qual : Str) (fd : FuncData) : Prop :=
  4 ≤ k ∧ Fx { tb with thk := none, lam := false } (k - 2) P w K mg base ∧ ∃ c Pt, LamX.TabB base mg c Pt ∧ fd.code = .ref c ∧ (Pt, qual ++ ".<locals>." ++ "<lambda>") ∈ tb.T ∧ ∀ p ∈ tb.T, p.1 = Pt → p.2 = qual ++ ".<locals>." ++ "<lambda>"
theorem def_run {A : Around} {outer : List Env} {s : Shared} {H : Hp} {E : XK} {Q : VK} {vs : List V} {cdv : Value} (S : FnScope N ps scope) (fx : Fx tb k P w K mg base) (hk : 2 ≤ k) (hth : tb.thk = none) (hl : tb.lam = true → LamF P w K mg base tb k qual fd) (hO : tb.O = Ot.no) (B : BOk tb k N scope body sf) (hc : fd.code = cdv)
    (hgu : tb.gd = true → A.guards = some []) (hr : Room k (A.deeper (envOfC qual scope s.heap.objs.size f cdv))) (h : spM K tb.F tb.T ps.length (gc (bodyM N.length sf)) vs H Q E) :
    ∃ t, PSs (cxOf (L2.CX P w) P w K mg base N qual scope f cdv A outer s H E) body t ∧ t { nx := fun _ H' => Q .non H', rt := Q } (L2.start N vs) H := by
  have G : Gd tb k N scope (cxOf (L2.CX P w) P w K mg base N qual scope f cdv A outer s H E) (fun cls d _ H => E cls d H) := by
    refine ⟨fx, hk, rfl, S.nd, rfl, S.kind, rfl, hr, fun e => hgu e, takes_of rfl rfl rfl rfl, fun a i f' θ e => ?_, fun e => ?_⟩
    · rw [hth] at e
      cases e
    · obtain ⟨h1, h2, c, Pt, h3, h4, h5, h6⟩ := hl e
      exact ⟨h1, h2, c, Pt, h3, hc.symm.trans h4, h5, h6⟩
  have GS : GdS tb k N scope (cxOf (L2.CX P w) P w K mg base N qual scope f cdv A outer s H E) (fun cls d _ H => E cls d H) := ⟨G, rfl, rfl, rfl, fun _ => rfl, passes_of rfl⟩
  obtain ⟨hl, m, h0, xs, hr0, rx, p⟩ := h
  refine ⟨_, B _ _ GS, m, h0, startM N.length xs, SR.start rx (fun p hp => ?_) (fun p hp => ?_), hr0, ?_⟩
  · rw [hO] at hp
    cases hp
  · rw [hO] at hp
    cases hp
  · have p := Po.gc p
    unfold bodyM at p
    generalize sf (startM N.length xs) h0 = r at p ⊢
    cases r with
    | next μ h' => exact fun m' H' σ' st q => p m' H' .non st .non
    | ret v h' => exact p
    | brk μ h' => exact p.elim
    | cnt μ h' => exact p.elim
    | exc C vs μ h' => exact fun m' H' d ws σ' st q z r => p m' H' d ws st z r
    | bad => exact p.elim
/-- a def of the program is the machine's -/
theorem def_ok {g : Bool} {kws : List (Str × V)} (F : FunD K x qual params body scope dvs kws f fd) (S : FnScope N ps scope) (fx : Fx tb k P w K mg base) (hk : 2 ≤ k) (hth : tb.thk = none) (hl : tb.lam = true → LamF P w K mg base tb k qual fd) (hO : tb.O = Ot.no) (hg : tb.gd = g) (B : BOk tb k N scope body sf) :
    FnM g P w K mg base (k + 1) f fd ps (spM K tb.F tb.T ps.length (defM N.length sf)) := by
  cases g with
  | true => exact FunD_okG F S rfl (fun vs H Q E h => h.1) fun A outer s H vs Q E hgu hr h => def_run S fx hk hth hl hO B rfl (fun _ => hgu) hr h
  | false =>
    obtain ⟨oc, od, dV, kV, doc, pm, an, cdv, ct, osl, e, lk, hcd, _, _⟩ := F.ex
    subst e
    exact fn_of lk hcd S (fun vs H Q E h => h.1) fun A outer s H vs Q E hr h => def_run S fx hk hth hl hO B rfl (fun e => by rw [hg] at e; cases e) hr h
/-- .. by what was compiled -/
theorem bok_of (h : (cBody tb k N scope body).map (·.1) = some sf) : BOk tb k N scope body sf := by
  obtain ⟨r, h1, h2⟩ := Option.map_eq_some_iff.mp h
  rw [← h2]
  exact r.2
/-! ### calls of it -/
/-- how n values by place and those named ks are put in order -/
def BindF (x qual : Str) (params : Arguments) (body : List Stmt) (scope : Scope) (ps : List Str) (n : Nat) (ks : List Str) (ix : List Nat) : Prop := ∀ (kV doc pm : Value) (an : Option Addr) (cdv ct : Value) (us ws : List Value), us.length = n → ws.length = ks.length →
  bindArgs (PySem.W.fnOf x qual params body scope .none kV doc pm an cdv ct) ⟨us, ks.zip ws⟩ = pure (ps.zip (pickL (us ++ ws) ix))
def BindD (x qual : Str) (params : Arguments) (body : List Stmt) (scope : Scope) (ps : List Str) (n : Nat) (ks : List Str) (m : Nat) (ix : List Nat) : Prop := ∀ (T : Addr) (kV doc pm : Value) (an : Option Addr) (cdv ct : Value) (us ws its : List Value), us.length = n → ws.length = ks.length → its.length = m →
  ∃ k, bindArgs (PySem.W.fnOf x qual params body scope (.ref T) kV doc pm an cdv ct) ⟨us, ks.zip ws⟩ = seqItems? (.ref T) >>= k ∧ k (some its.toArray) = pure (ps.zip (pickL (us ++ ws ++ its) ix))
theorem bind_no {n : Nat} {ks : List Str} {ix : List Nat} {kws : List (Str × V)} (F : FunD K x qual params body scope [] kws f fd) (h : BindF x qual params body scope ps n ks ix) : ∀ (s' : Shared) (us ws : List Value), K.In s'.heap → us.length = n → ws.length = ks.length → BindsTo s' fd ⟨us, ks.zip ws⟩ (ps.zip (pickL (us ++ ws ++ []) ix)) := by
  obtain ⟨oc, od, dV, kV, doc, pm, an, cdv, ct, osl, rfl, lk, hcd, hD, hK⟩ := F.ex
  rcases hD with ⟨_, rfl⟩ | ⟨e, _⟩
  · intro s' us ws _ h1 h2
    rw [List.append_nil]
    exact .of_eq (h kV doc pm an cdv ct us ws h1 h2)
  · exact absurd rfl e
theorem bind_d {n : Nat} {ks : List Str} {ix : List Nat} {kws : List (Str × V)} (F : FunD K x qual params body scope dvs kws f fd) (hd : dvs ≠ []) (h : BindD x qual params body scope ps n ks dvs.length ix) : ∃ its, Vals dvs its ∧ ∀ (s' : Shared) (us ws : List Value), K.In s'.heap → us.length = n → ws.length = ks.length → BindsTo s' fd ⟨us, ks.zip ws⟩ (ps.zip (pickL (us ++ ws ++ its) ix)) := by
  obtain ⟨oc, od, dV, kV, doc, pm, an, cdv, ct, osl, rfl, lk, hcd, hD, hK⟩ := F.ex
  rcases hD with ⟨e, _⟩ | ⟨_, T, o, its, m, rfl, lT, oT, rT⟩
  · exact absurd e hd
  · refine ⟨its, rT, fun s' us ws X h1 h2 => ?_⟩
    obtain ⟨k, e1, e2⟩ := h T kV doc pm an cdv ct us ws its h1 h2 rT.length.symm
    refine BindsTo.of_looks fun M => ?_
    rw [e1]
    exact looks_items X lT oT (PySem.W.Looks.of_pure e2)
theorem call_def {g : Bool} {F : Flds} {T : List (Addr × Str)} {gd : Bool} {j n : Nat} {ks : List Str} {ix : List Nat} {o : LF} {kws : List (Str × V)} (D : FunD K x qual params body scope [] kws f fd) (hm : mg x = some (.ref f)) (Fn : FnM g P w K mg base j f fd ps (spM K F T ps.length o)) (hg : g = true → gd = true) (hj : j ≤ k)
    (hb : BindF x qual params body scope ps n ks ix) (hl : ∀ l : List V, l.length = n + ks.length → (pickL l ix).length = ps.length) : CallF P w K mg base F T gd k ⟨x, n, ks, ordM ix [] o⟩ :=
  .inl ⟨f, fd, ps, ix, [], [], [], o, g, j, hm, D.kp, Fn, hg, hj, .nil, fun _ _ _ _ _ => .nil, bind_no D hb, fun l hl' => hl l (by simpa using hl'), rfl⟩
theorem call_defD {g : Bool} {F : Flds} {T : List (Addr × Str)} {gd : Bool} {j n : Nat} {ks : List Str} {ix : List Nat} {o : LF} {kws : List (Str × V)} {ds : List MV} (D : FunD K x qual params body scope dvs kws f fd) (hm : mg x = some (.ref f)) (Fn : FnM g P w K mg base j f fd ps (spM K F T ps.length o)) (hg : g = true → gd = true) (hj : j ≤ k)
    (hd : dvs ≠ []) (hc : CstOk ds dvs) (hb : BindD x qual params body scope ps n ks dvs.length ix) (hl : ∀ l : List V, l.length = n + ks.length + dvs.length → (pickL l ix).length = ps.length) : CallF P w K mg base F T gd k ⟨x, n, ks, ordM ix ds o⟩ := by
  obtain ⟨its, h1, h2⟩ := bind_d D hd hb
  exact .inl ⟨f, fd, ps, ix, ds, dvs, its, o, g, j, hm, D.kp, Fn, hg, hj, h1, hc, h2, hl, rfl⟩
/-- a class, made by its __init__ -/
theorem call_cls {F : Flds} {T : List (Addr × Str)} {gd : Bool} {C q : Str} {j n : Nat} {ks : List Str} {ix : List Nat} {o : LF} {kws : List (Str × V)} (D : FunD K x q params body scope [] kws f fd) (hm : mg C = some (.ref (He.ga K C))) (M : Mk K (He.ga K C) f) (Fn : FnOk P w K mg base (L2.CX P w) j f fd ps (spM K F T ps.length o)) (hj : j + 1 ≤ k)
    (hb : BindF x q params body scope ps (n + 1) ks ix) (hl : ∀ l : List V, l.length = n + 1 + ks.length → (pickL l ix).length = ps.length) : CallF P w K mg base F T gd k ⟨C, n, ks, gc (makeM F C (ordM ix [] o))⟩ :=
  .inr ⟨f, fd, ps, ix, [], [], [], o, j, hm, M.kp, M, Fn, hj, .nil, fun _ _ _ _ _ => .nil, bind_no D hb, fun l hl' => hl l (by simpa using hl'), rfl⟩
end
theorem CallF.mono {P : Program} {w : World} {K : PySem.W.Frag} {mg : Str → Option Value} {base : Heap} {F : Flds} {T : List (Addr × Str)} {gd : Bool} {k k' : Nat} {s : Shape} (h : CallF P w K mg base F T gd k s) (hk : k ≤ k') : CallF P w K mg base F T gd k' s := by
  rcases h with ⟨f, fd, ps, ix, ds, dvs, its, o, g, j, c1, c2, c3, c4, c5, c6⟩ | ⟨f, fd, ps, ix, ds, dvs, its, o, j, c1, c2, c3, c4, c5, c6⟩
  · exact .inl ⟨f, fd, ps, ix, ds, dvs, its, o, g, j, c1, c2, c3, c4, by omega, c6⟩
  · exact .inr ⟨f, fd, ps, ix, ds, dvs, its, o, j, c1, c2, c3, c4, by omega, c6⟩
theorem CallF.gd {P : Program} {w : World} {K : PySem.W.Frag} {mg : Str → Option Value} {base : Heap} {F : Flds} {T : List (Addr × Str)} {gd : Bool} {k : Nat} {s : Shape} (h : CallF P w K mg base F T gd k s) : CallF P w K mg base F T true k s := by
  rcases h with ⟨f, fd, ps, ix, ds, dvs, its, o, g, j, c1, c2, c3, c4, c5, c6⟩ | h
  · exact .inl ⟨f, fd, ps, ix, ds, dvs, its, o, g, j, c1, c2, c3, fun _ => rfl, c5, c6⟩
  · exact .inr h
end M

set_option Elab.async false
set_option linter.all false
set_option maxRecDepth 100000
set_option maxHeartbeats 4000000
/-! what the head says of names and classes -/
namespace M
open PySem PySem.Spec PyProof.Rows L2 DL
/-- names and classes of a program -/
structure Cfg where
  nFree : List Str
  nInts : List (Str × Int)
  nStrs : List (Str × Str)
  nImp : List (Str × String)
  nDefs : List Str
  /-- classes of values and their fields; classes whose instances are written -/
  cVal : List (Str × List Str)
  cMut : List (Str × List Str)
  /-- classes of errors and their fields -/
  cErr : List (Str × List Str)
  /-- other classes that are asked for -/
  cAbs : List Str
  /-- what a class stands below, itself among it -/
  cSup : List (Str × List Str)
  cTop : Option Str
  /-- classes with an own __eq__ -/
  cEq : List Str
namespace Cfg
variable (c : Cfg)
def insL : List (Str × List Str) := c.cVal ++ c.cMut
def insN : List Str := c.insL.map (·.1)
def errN : List Str := c.cErr.map (·.1)
def F : Flds := fun C => match (c.cVal ++ c.cErr).lookup C with
  | some l => l
  | none => []
def sub (C D : Str) : Bool := match c.cSup.lookup C with
  | some l => l.contains D
  | none => false
def insB (K : PySem.W.Frag) (C : Str) (fs : List Str) : Bool :=
  (PySem.W.plainGet K (He.ga K C) Str.empty && PySem.W.hasDictIn K (He.ga K C) && PySem.W.plainOver K (He.ga K C) && decide (PySem.W.findIn K (.ref (He.ga K C)) "__setattr__" = some (some (.builtin "object.__setattr__")))) && (fs.all fun f => decide (PySem.W.findIn K (.ref (He.ga K C)) f = some none)) &&
  (decide (PySem.W.findIn K (.ref (He.ga K C)) "__class__" = some (some (.builtin "object.__class__"))) && decide (PySem.W.specialIn K (.builtin "object.__class__") "__get__" = some (some (.builtin "getset_descriptor.__get__"))) && decide (PySem.W.takesIn K (.builtin "object.__class__") = some true) && decide (PySem.W.mroIn K (He.ga K C) (.type "object") = some true))
theorem insB_ok {K : PySem.W.Frag} {C : Str} {fs gs : List Str} (h : insB K C fs = true) (hg : ∀ g ∈ gs, g ∈ fs) : ClsI K C gs := by
  unfold insB at h
  simp only [Bool.and_eq_true, decide_eq_true_eq, List.all_eq_true] at h
  obtain ⟨⟨⟨⟨⟨h1, h2⟩, h3⟩, h4⟩, h5⟩, ⟨⟨⟨h6, h7⟩, h8⟩, h9⟩⟩ := h
  exact ⟨⟨h1, h2, h3, h4⟩, fun f hf => h5 f (hg f hf), h6, h7, h8, h9⟩
def bt7 : List String := ["NoneType", "bool", "int", "str", "list", "tuple", "dict"]
def kitF (K : PySem.W.Frag) : Bool :=
  (bt7.all fun a => (c.insN ++ c.errN).all fun D => decide (PySem.W.kitOne K (.type a) (.ref (He.ga K D)) = some false)) &&
  ((c.insN ++ c.errN).all fun C => (c.insN ++ c.errN).all fun D => decide (PySem.W.kitOne K (.ref (He.ga K C)) (.ref (He.ga K D)) = some (c.sub C D))) &&
  ((c.insN ++ c.errN).all fun C => ("ValueError" :: bts).all fun b => decide (PySem.W.kitOne K (.ref (He.ga K C)) (.type b) = some (c.sub C (Str.ofString b)))) &&
  (c.insL.all fun p => insB K p.1 p.2) && (c.errN.all fun C => xcB K (He.ga K C))
theorem kitF_ok {K : PySem.W.Frag} (h : c.kitF K = true) : KitF K c.insN c.errN c.sub := by
  unfold kitF at h
  simp only [Bool.and_eq_true] at h
  obtain ⟨⟨⟨⟨h1, h2⟩, h3⟩, h4⟩, h5⟩ := h
  refine ⟨fun a ha D hD => ?_, fun C hC D hD => ?_, fun C hC b hb => ?_, fun C hC => ?_, fun C hC => ?_⟩
  · exact of_decide_eq_true (List.all_eq_true.mp (List.all_eq_true.mp h1 a ha) D hD)
  · exact of_decide_eq_true (List.all_eq_true.mp (List.all_eq_true.mp h2 C hC) D hD)
  · exact of_decide_eq_true (List.all_eq_true.mp (List.all_eq_true.mp h3 C hC) b hb)
  · obtain ⟨p, hp, e⟩ := List.mem_map.mp hC
    subst e
    exact insB_ok (List.all_eq_true.mp h4 p hp) fun _ z => by cases z
  · exact xcB_ok (List.all_eq_true.mp h5 C hC)
/-- classes stand apart -/
def gaB (K : PySem.W.Frag) : Bool := c.insN.all fun C => ((c.cVal ++ c.cErr).map (·.1)).all fun D => decide (He.ga K C = He.ga K D → D = C)
theorem lookup_memS {α : Type} {l : List (Str × α)} {C : Str} {v : α} (h : l.lookup C = some v) : (C, v) ∈ l := look_mem h
theorem gaB_ok {K : PySem.W.Frag} (h : c.gaB K = true) {C C' : Str} (hC : C ∈ c.insN) (hF : c.F C' ≠ []) (e : He.ga K C = He.ga K C') : C' = C := by
  have hm : C' ∈ (c.cVal ++ c.cErr).map (·.1) := by
    unfold F at hF
    split at hF
    · rename_i l hl
      exact List.mem_map.mpr ⟨_, look_mem hl, rfl⟩
    · exact absurd rfl hF
  exact of_decide_eq_true (List.all_eq_true.mp (List.all_eq_true.mp h C hC) C' hm) e
theorem hasF_in {t : InsT} {C f : Str} (h : hasF t C f = true) : C ∈ t.map (·.1) := by
  obtain ⟨fs, h1, _⟩ := hasF_of h
  exact List.mem_map.mpr ⟨_, h1, rfl⟩
def names : List He.Fa := (c.nFree.map He.Fa.free) ++ (c.nInts.map fun p => He.Fa.int p.1 p.2) ++ (c.nStrs.map fun p => He.Fa.str p.1 p.2) ++ ((c.nDefs ++ c.insN ++ c.errN ++ c.cAbs).map He.Fa.glo)
def topB (K : PySem.W.Frag) : Bool := match c.cTop with
  | some t => decide (PySem.W.nsIn K mainGlobals t = some (some (.ref (He.ga K t)))) && c.errN.all fun D => decide (PySem.W.exmOne K (.ref (He.ga K D)) (.ref (He.ga K t)) = some true)
  | none => true
def errFB (K : PySem.W.Frag) : Bool := c.cErr.all fun p => p.2.all fun f => decide (PySem.W.findIn K (.ref (He.ga K p.1)) f = some none)
def impB (K : PySem.W.Frag) : Bool := c.nImp.all fun p => decide (PySem.W.nsIn K mainGlobals p.1 = some (some (.builtin p.2)))
/-- all that is asked of the head -/
def ok (K : PySem.W.Frag) : Bool := (c.names.all fun f => f.ok K) && (c.kitF K && (c.gaB K && (c.topB K && (c.errFB K && c.impB K))))
def con : List (Str × MV) := (c.nInts.map fun p => (p.1, MV.int p.2)) ++ (c.nStrs.map fun p => (p.1, MV.str p.2))
/-- the tables, with no def in them -/
def tb (T : List (Addr × Str)) : Tb where
  F := c.F
  T := T
  O := Ot.no
  ins := c.insL
  ers := c.cErr
  insN := c.insN
  errN := c.errN
  sub := c.sub
  eqs := []
  shp := []
  con := c.con
  blt := c.nFree
  imp := c.nImp
  gd := true
  thk := none
  rai := []
  top := c.cTop
  hrd := []
  lam := false
  rf := []
  cl := []
  fz := []
  fd := []
/-- what holds of the names, whatever runs -/
structure Fb (w : World) (K : PySem.W.Frag) (mg : Str → Option Value) : Prop where
  bl : ∀ b ∈ c.nFree, mg b = none
  co : ∀ p ∈ c.con, ∃ u x, mg p.1 = some u ∧ RelV x u ∧ ∀ H m n, RV K c.F H m n p.2 x
  im : ∀ p ∈ c.nImp, mg p.1 = some (.builtin p.2)
  gl : ∀ C ∈ c.nDefs ++ c.insN ++ c.errN ++ c.cAbs, mg C = some (.ref (He.ga K C))
  tp : ∀ C, c.cTop = some C → mg C = some (.ref (He.ga K C)) ∧ ∀ D ∈ c.errN, PySem.W.exmOne K (.ref (He.ga K D)) (.ref (He.ga K C)) = some true
  kit : KitF K c.insN c.errN c.sub
  ci : ∀ C f, hasF c.insL C f = true → ClsI K C [f]
  gi : ∀ C f, hasF c.insL C f = true → ∀ C', c.F C' ≠ [] → He.ga K C = He.ga K C' → C' = C
  ce : ∀ C f, hasF c.cErr C f = true → ErrI K C [f]
theorem fb {w : World} {K : PySem.W.Frag} {h : Heap} {mg : Str → Option Value} (X : K.In h) (G : h.Ns mainGlobals mg) (e : c.ok K = true) : c.Fb w K mg := by
  unfold ok at e
  simp only [Bool.and_eq_true] at e
  obtain ⟨e1, e2, e3, e4, e5, e6⟩ := e
  have fa : ∀ f ∈ c.names, f.ok K = true := fun f hf => List.all_eq_true.mp e1 f hf
  have kf := c.kitF_ok e2
  have e2' := e2
  unfold kitF at e2'
  simp only [Bool.and_eq_true] at e2'
  have gl : ∀ C ∈ c.nDefs ++ c.insN ++ c.errN ++ c.cAbs, mg C = some (.ref (He.ga K C)) := fun C hC => He.glo_ok X G (fa _ (List.mem_append_right _ (List.mem_map.mpr ⟨C, hC, rfl⟩)))
  refine ⟨fun b hb => He.free_ok X G (fa _ (List.mem_append_left _ (List.mem_append_left _ (List.mem_append_left _ (List.mem_map.mpr ⟨b, hb, rfl⟩))))), fun p hp => ?_, fun p hp => ?_, gl, fun C hC => ?_, kf, fun C f hf => ?_, fun C f hf C' hF e => ?_, fun C f hf => ?_⟩
  · rcases List.mem_append.mp hp with hp | hp
    · obtain ⟨q, hq, rfl⟩ := List.mem_map.mp hp
      obtain ⟨t, ht⟩ := He.int_ok X G (fa (.int q.1 q.2) (List.mem_append_left _ (List.mem_append_left _ (List.mem_append_right _ (List.mem_map.mpr ⟨q, hq, rfl⟩)))))
      exact ⟨_, .int q.2, ht, ⟨t, rfl⟩, fun _ _ _ => .int _⟩
    · obtain ⟨q, hq, rfl⟩ := List.mem_map.mp hp
      obtain ⟨t, ht⟩ := He.str_ok X G (fa (.str q.1 q.2) (List.mem_append_left _ (List.mem_append_right _ (List.mem_map.mpr ⟨q, hq, rfl⟩))))
      exact ⟨_, .str q.2, ht, ⟨t, rfl⟩, fun _ _ _ => .str _⟩
  · exact PySem.W.mg_of X G (of_decide_eq_true (List.all_eq_true.mp e6 p hp))
  · unfold topB at e4
    rw [hC] at e4
    simp only [Bool.and_eq_true, decide_eq_true_eq] at e4
    exact ⟨PySem.W.mg_of X G e4.1, fun D hD => of_decide_eq_true (List.all_eq_true.mp e4.2 D hD)⟩
  · obtain ⟨fs, h1, h2⟩ := hasF_of hf
    exact insB_ok (List.all_eq_true.mp e2'.1.2 _ h1) fun g hg => by
      rcases List.mem_singleton.mp hg with rfl
      exact h2
  · exact c.gaB_ok e3 (hasF_in hf) hF e
  · obtain ⟨fs, h1, h2⟩ := hasF_of hf
    refine ⟨kf.ce C (List.mem_map.mpr ⟨_, h1, rfl⟩), fun g hg => ?_⟩
    rcases List.mem_singleton.mp hg with rfl
    exact of_decide_eq_true (List.all_eq_true.mp (List.all_eq_true.mp e5 _ h1) _ h2)
end Cfg
/-- the facts of a def's tables, by those of the names and of the defs that it calls -/
theorem Cfg.Fb.fx {c : Cfg} {P : Program} {w : World} {K : PySem.W.Frag} {mg : Str → Option Value} {base : Heap} (B : c.Fb w K mg) {k : Nat} {tb : Tb} (e : tb = { c.tb tb.T with eqs := tb.eqs, shp := tb.shp, gd := tb.gd, thk := tb.thk, rai := tb.rai, hrd := tb.hrd, lam := tb.lam, rf := tb.rf, cl := tb.cl, fz := tb.fz, fd := tb.fd })
    (eq : ∀ p ∈ tb.eqs, EqF P w K mg base c.F tb.T (k - 1) c.insN p.1 p.2) (ca : ∀ s ∈ tb.shp, CallF P w K mg base c.F tb.T tb.gd k s) (rz : ∀ p ∈ tb.rai, XCls P w K mg base p.1 p.2 (He.ga K p.1) ∧ c.F p.1 = [p.2]) (hd : ∀ s ∈ tb.hrd, HeardF P w K mg base c.F tb.T tb.gd k s) : Fx tb k P w K mg base := by
  have gl : ∀ C ∈ c.insN ++ c.errN, mg C = some (.ref (He.ga K C)) := fun C hC => B.gl C (by
    rcases List.mem_append.mp hC with h | h
    · exact List.mem_append_left _ (List.mem_append_left _ (List.mem_append_right _ h))
    · exact List.mem_append_left _ (List.mem_append_right _ h))
  generalize tb.T = T at e eq ca hd
  generalize tb.eqs = q1 at e eq
  generalize tb.shp = q2 at e ca
  generalize tb.gd = q3 at e ca hd
  generalize tb.rai = q4 at e rz
  generalize tb.hrd = q5 at e hd
  generalize tb.thk = q6 at e
  generalize tb.lam = q7 at e
  generalize tb.rf = q8 at e
  generalize tb.cl = q9 at e
  generalize tb.fz = q10 at e
  generalize tb.fd = q11 at e
  subst e
  exact ⟨B.bl, B.co, B.im, gl, B.tp, B.kit, B.ci, B.gi, B.ce, eq, ca, rz, hd⟩
/-! ### classes: made, compared -/
def mkB (K : PySem.W.Frag) (C : Str) : Bool := PySem.W.makesIn K (He.ga K C) && (decide (PySem.W.findIn K (.ref (He.ga K C)) "__init__" = some (some (.ref (He.ma K (He.ga K C) "__init__")))) && (PySem.W.isFn K (.ref (He.ma K (He.ga K C) "__init__")) && PySem.W.keepIn K (.ref (He.ga K C))))
theorem mkB_ok {K : PySem.W.Frag} {C : Str} (h : mkB K C = true) : Mk K (He.ga K C) (He.ma K (He.ga K C) "__init__") := by
  unfold mkB at h
  simp only [Bool.and_eq_true, decide_eq_true_eq] at h
  exact ⟨h.1, h.2.1, h.2.2.1, h.2.2.2⟩
def eqB (K : PySem.W.Frag) (ins : List Str) (C : Str) : Bool := (decide (PySem.W.findIn K (.ref (He.ga K C)) "__eq__" = some (some (.ref (He.ma K (He.ga K C) "__eq__")))) && (PySem.W.isFn K (.ref (He.ma K (He.ga K C) "__eq__")) && (decide (PySem.W.findIn K (.ref (He.ga K C)) "__ne__" = some (some (.builtin "object.__ne__"))) && decide (PySem.W.mroIn K (He.ga K C) (.type "object") = some true)))) &&
  ((Cfg.bt7.all fun a => PySem.W.notFirst K (He.ga K C) (.type a)) && ((ins.all fun D => PySem.W.notFirst K (He.ga K C) (.ref (He.ga K D))) && (decide (PySem.W.mroIn K (He.ga K C) (.type "tuple") = some false) && (decide (PySem.W.subIn K (.ref (He.ga K C)) (.type "tuple") = some false) && decide (PySem.W.subIn K (.ref (He.ga K C)) (.type "NoneType") = some false)))))
theorem eqB_ok {P : Program} {w : World} {K : PySem.W.Frag} {mg : Str → Option Value} {base : Heap} {F : Flds} {T : List (Addr × Str)} {n : Nat} {ins : List Str} {C q : Str} {o : LF} {params : Arguments} {body : List Stmt} {scope : Scope} {ps : List Str} {fd : FuncData} {kws : List (Str × V)} (h : eqB K ins C = true)
    (D : FunD K "__eq__" q params body scope [] kws (He.ma K (He.ga K C) "__eq__") fd) (Fn : FnOk P w K mg base (L2.CX P w) n (He.ma K (He.ga K C) "__eq__") fd ps (spM K F T ps.length o)) (hp : ps.length = 2) (hb : Binds K fd ps []) : EqF P w K mg base F T n ins C o := by
  unfold eqB at h
  simp only [Bool.and_eq_true, decide_eq_true_eq, List.all_eq_true] at h
  obtain ⟨⟨h1, h2, h3, h4⟩, h5, h6, h7, h8, h9⟩ := h
  rw [hp] at Fn
  exact ⟨⟨_, fd, ps, ⟨h1, h2, h3, h4⟩, Fn, hb⟩, h5, h6, h7, h8, h9⟩
/-- an own error's class, from the head's facts -/
theorem errB_ok {P : Program} {w : World} {K : PySem.W.Frag} {mg : Str → Option Value} {base : Heap} {x f q : Str} {st : Stmt} {fd : FuncData} (h : errB K x f = true) (g : mg x = some (.ref (He.ga K x))) (F : FunD K "__init__" q (defArgs st) (defBody st) (defScope st) [] [] (He.ma K (He.ga K x) "__init__") fd)
    (B : Binds K fd ["self", f] []) (ok : FnOk P w K mg base (L2.CX P w) 1 (He.ma K (He.ga K x) "__init__") fd ["self", f] (spXI K (He.ga K x) f)) : XCls P w K mg base x f (He.ga K x) := by
  obtain ⟨q1, h⟩ := He.ba h
  obtain ⟨q2, h⟩ := He.ba h
  obtain ⟨q3, h⟩ := He.ba h
  obtain ⟨q4, q5⟩ := He.ba h
  exact ⟨g, oexB_ok q1, xcB_ok q2, of_decide_eq_true q3, _, fd, q, st, of_decide_eq_true q4, of_decide_eq_true q5, F, B, ok⟩
theorem code_of {K : PySem.W.Frag} {x qual : Str} {params : Arguments} {body : List Stmt} {scope : Scope} {dvs : List V} {kws : List (Str × V)} {fd : FuncData} {p : He.Defn} (F : FunD K x qual params body scope dvs kws (He.fAd K p) fd) : fd.code = .ref (He.codeOf K p) := by
  obtain ⟨oc, od, dV, kV, doc, pm, an, cdv, ct, osl, rfl, lk, hcd, _, _⟩ := F.ex
  obtain ⟨c, e⟩ := He.codeIn_ref hcd
  rw [He.codeOf_eq lk e]
  exact e
/-! ### a def that is handed a thunk -/
theorem heard_ok {P : Program} {w : World} {K : PySem.W.Frag} {mg : Str → Option Value} {base : Heap} {tb : Tb} {k : Nat} {N : List Str} {a x : Str} {scope : Scope} {body : List Stmt} {params : Arguments} {sf : Addr → (MH → R MV) → SF} {o : (MH → R MV) → MH → R MV} {g : Addr} {fd : FuncData}
    (F : FunD K x x params body scope [] [] g fd) (hm : mg x = some (.ref g)) (S : FnScope N [a] scope) (fx : Fx tb k P w K mg base) (hk : 2 ≤ k) (hlam : tb.lam = false) (hd : dbg a = true ∧ dbg x = true ∧ visB scope a = true)
    (hb : ∀ (kV doc pm : Value) (an : Option Addr) (cdv ct : Value) (us : List Value), us.length = 1 → bindArgs (PySem.W.fnOf x x params body scope .none kV doc pm an cdv ct) ⟨us, []⟩ = pure ([a].zip us))
    (B : ∀ (O : Ot) (f : Addr) (θ : MH → R MV), BOk { tb with thk := some (a, 0, f, θ), O := O } k N scope body (sf f θ)) (ho : ∀ f θ h, o θ h = .bad ∨ gcR h.length (retOf (sf f θ (startM N.length [.raw f]) h)) = o θ h) : HeardF P w K mg base tb.F tb.T tb.gd (k + 1) ⟨x, o⟩ := by
  have kp := F.kp
  have hbn := F.bindsN (ps := [a]) hb
  obtain ⟨oc, od, dV, kV, doc, pm, an, cdv, ct, osl, e, lk, hcd, hD, hK⟩ := F.ex
  subst e
  have hN0 : N[0]? = some a := by
    have := S.pre
    cases N with
    | nil => cases this
    | cons b bs =>
      have e : b = a := (List.cons.inj this).1
      rw [e]
      rfl
  refine ⟨g, params, body, scope, dV, kV, doc, pm, cdv, ct, oc, an, od, osl, N, a, sf, k, hm, kp, lk, hcd, hbn, S, hN0, vis_of hd.2.2, hd.1, hd.2.1, Nat.le_refl _, fun A stk s0 H0 O f θ hr hgu act => ?_, ho⟩
  have fx2 : Fx { tb with thk := some (a, 0, f, θ), O := O } k P w K mg base := ⟨fx.bl, fx.co, fx.im, fx.cls, fx.tp, fx.kit, fx.ci, fx.gi, fx.ce, fx.eq, fx.ca, fx.rz, fx.hd⟩
  have G : Gd { tb with thk := some (a, 0, f, θ), O := O } k N scope (cxOf C8.CX0 P w K mg base N x scope g cdv A stk s0 H0 C8.E0).nox (fun _ _ _ _ => False) := by
    refine ⟨fx2, hk, rfl, S.nd, rfl, S.kind, rfl, hr, fun e => hgu e, LamX.takes0, fun a' i f' θ' e pn xe W' tk p pos => ?_, fun e => ?_⟩
    · cases e
      exact act W' pn xe tk p pos
    · rw [show ({ tb with thk := some (a, 0, f, θ), O := O } : Tb).lam = tb.lam from rfl, hlam] at e
      cases e
  exact B O f θ _ _ ⟨G, rfl, rfl, rfl, fun _ => rfl, PassesOwn.never⟩
theorem HeardF.mono {P : Program} {w : World} {K : PySem.W.Frag} {mg : Str → Option Value} {base : Heap} {F : Flds} {T : List (Addr × Str)} {gd : Bool} {k k' : Nat} {s : Heard} (h : HeardF P w K mg base F T gd k s) (hk : k ≤ k') : HeardF P w K mg base F T gd k' s := by
  obtain ⟨g, pg, bg, sg, dV, kV, doc, pm, cdv, ct, oc, an, od, osl, Ng, a, sf, j, a1, a2, a3, a4, a5, a6, a7, a8, a9, a10, a11, a12⟩ := h
  exact ⟨g, pg, bg, sg, dV, kV, doc, pm, cdv, ct, oc, an, od, osl, Ng, a, sf, j, a1, a2, a3, a4, a5, a6, a7, a8, a9, a10, Nat.le_trans a11 hk, a12⟩
theorem all_nil {α : Type} {p : α → Prop} : ∀ s ∈ ([] : List α), p s := fun s h => by cases h
theorem all_cons {α : Type} {p : α → Prop} {a : α} {l : List α} (h : p a) (t : ∀ s ∈ l, p s) : ∀ s ∈ a :: l, p s := fun s hs => by
  rcases List.mem_cons.mp hs with rfl | hs
  · exact h
  · exact t s hs
/-! ### the law -/
def lamT (K : PySem.W.Frag) (tf : List Str) : List (Addr × Str) := tf.map fun x => ((He.cT K (x, none)).2, x ++ ".<locals>." ++ "<lambda>")
def apartB (K : PySem.W.Frag) (tf : List Str) : Bool := tf.all fun x => tf.all fun y => decide ((He.cT K (x, none)).2 = (He.cT K (y, none)).2 → y = x)
/-- what a def with lambdas wants, of the head -/
theorem lamF_of {P : Program} {w : World} {K : PySem.W.Frag} {mg : Str → Option Value} {base : Heap} {tb : Tb} {k : Nat} {x : Str} {params : Arguments} {body : List Stmt} {scope : Scope} {dvs : List V} {kws : List (Str × V)} {fd : FuncData} {tf : List Str} (F : FunD K x x params body scope dvs kws (He.fAd K (x, none)) fd)
    (hx : x ∈ tf) (ap : apartB K tf = true) (hT : tb.T = lamT K tf) (TB : ∀ p ∈ tf.map fun y => He.cT K (y, none), LamX.TabB base mg p.1 p.2) (hk : 4 ≤ k) (fx : Fx { tb with thk := none, lam := false } (k - 2) P w K mg base) : LamF P w K mg base tb k x fd := by
  refine ⟨hk, fx, (He.cT K (x, none)).1, (He.cT K (x, none)).2, TB _ (List.mem_map.mpr ⟨x, hx, rfl⟩), code_of F, ?_, fun p hp e => ?_⟩
  · rw [hT]
    exact List.mem_map.mpr ⟨x, hx, rfl⟩
  · rw [hT] at hp
    obtain ⟨y, hy, e2⟩ := List.mem_map.mp hp
    subst e2
    have := of_decide_eq_true (List.all_eq_true.mp (List.all_eq_true.mp ap x hx) y hy) e.symm
    rw [this]
theorem law_at {l : PySem.W.OpenLaw} {w : World} {K : PySem.W.Frag} {h : Heap} {mg : Str → Option Value} {f : Addr} {fd : FuncData} {F : Flds} {tf : List Str} {k : Nat} {o : LF} {params : Arguments} {body : List Stmt} {scope : Scope} {fa : List He.Fa} {fn : List He.DefD} {ex : PySem.W.Frag → Bool} (X : K.In h) (c : He.SaysX fa fn [] (tf.map fun x => (x, none)) ex w h K)
    (D : FunD K "law" "law" params body scope [] [] f fd) (hb : ∀ (kV doc pm : Value) (an : Option Addr) (cdv ct : Value) (us : List Value), us.length = 1 → bindArgs (PySem.W.fnOf "law" "law" params body scope .none kV doc pm an cdv ct) ⟨us, []⟩ = pure ([("script" : Str)].zip us))
    (ok : ∀ base : Heap, K.In base → base.Ns mainGlobals mg → (∀ p ∈ tf.map fun y => He.cT K (y, none), LamX.TabB base mg p.1 p.2) → FnM true l.prog w K mg base k f fd ["script"] (spM K F (lamT K tf) 1 o))
    (pl : ∀ ns : List Int, ns.length ≤ 63 → (∀ z ∈ ns, Builtin.Int.intBits z ≤ 1048576) → ∃ h', o [.scr (ns.map .int)] [] = .ok (.bl true) h') : DL.LawAtG l w K (L2.CX l.prog w) k 63 "script" mg f h := by
  have memT : ∀ p ∈ tf.map (fun y => He.cT K (y, none)), ∃ y ∈ tf, p = He.cT K (y, none) := fun p hp => by
    obtain ⟨y, hy, e⟩ := List.mem_map.mp hp
    exact ⟨y, hy, e.symm⟩
  have memF : ∀ y ∈ tf, ((y, none) : He.Defn) ∈ tf.map fun x => ((x, none) : He.Defn) := fun y hy => List.mem_map.mpr ⟨y, hy, rfl⟩
  refine ⟨fd, tf.map fun y => He.cT K (y, none), spM K F (lamT K tf) 1 o, fun p hp => ?_, fun p hp => ?_, fun p hp => ?_, fun s u => D.bindsA (ps := ["script"]) hb s [u] rfl, fun H a ns hl hbits hH hS => ?_, fun base KB NB hTB => ok base KB NB hTB⟩
  · obtain ⟨y, hy, rfl⟩ := memT p hp
    exact c.empty _ (memF y hy)
  · obtain ⟨y, hy, rfl⟩ := memT p hp
    exact c.out _ (memF y hy)
  · obtain ⟨y, hy, rfl⟩ := memT p hp
    exact PySem.W.codeHd_of_K X (c.hd _ (memF y hy))
  · obtain ⟨h', e⟩ := pl ns hl hbits
    refine ⟨rfl, fun _ => 0, [], [.scr (ns.map .int)], ⟨fun i j hi => absurd hi (Nat.not_lt_zero _), fun i o e => by simp at e, fun p hp => ?_⟩, .cons (.scr hS ?_) .nil, ?_⟩
    · obtain ⟨y, hy, e2⟩ := List.mem_map.mp hp
      subst e2
      exact LamX.TabS.nil (hH _ (List.mem_map.mpr ⟨y, hy, rfl⟩))
    · have : ∀ l : List Int, RVs K F H (fun _ => 0) ([] : MH).length (l.map MV.int) (l.map V.int) := fun l => by
        induction l with
        | nil => exact .nil
        | cons a l ih => exact .cons (.int a) ih
      exact this ns
    · rw [e]
      intro m' H' b st r
      cases r
      rfl
theorem cx_none {P : Program} {w : World} (H : Hp) (s : Shared) (e : Value) (s' : Shared) (h : L2.CX P w [] H s (fun _ _ _ => False) e s') : False := cx_no h
end M

set_option Elab.async false
set_option linter.all false
set_option maxRecDepth 100000
set_option maxHeartbeats 4000000
/-! the machine's words, evaluated -/
namespace M
open PySem PySem.Spec PyProof.Rows
section
variable {α β γ : Type} {μ : ME} {h h' : MH} {f g l : EF} {a b : AF} {c d : TF} {s t : SF} {v x y : MV} {xs : List MV} {n i : Nat} {o : LF} {o2 : MV → MV → MH → R MV} {o1 : MV → MH → R MV} {K : α → MH → R β}
@[simp] theorem bind_ok (a : α) : (R.ok a h).bind K = K a h := of_eq_true (eq_self _)
@[simp] theorem bind_exc {C : Str} {vs : List MV} : (R.exc C vs h : R α).bind K = .exc C vs h := of_eq_true (eq_self _)
@[simp] theorem bind_bad : (R.bad : R α).bind K = .bad := of_eq_true (eq_self _)
@[simp] theorem st_ok {k : α → MH → RS} (a : α) : (R.ok a h).st μ k = k a h := of_eq_true (eq_self _)
@[simp] theorem st_exc {k : α → MH → RS} {C : Str} {vs : List MV} : (R.exc C vs h : R α).st μ k = .exc C vs μ h := of_eq_true (eq_self _)
@[simp] theorem then_next {k : ME → MH → RS} : (RS.next μ h).then k = k μ h := of_eq_true (eq_self _)
@[simp] theorem then_ret {k : ME → MH → RS} : (RS.ret v h).then k = .ret v h := of_eq_true (eq_self _)
@[simp] theorem then_exc {k : ME → MH → RS} {C : Str} {vs : List MV} : (RS.exc C vs μ h).then k = .exc C vs μ h := of_eq_true (eq_self _)
@[simp] theorem then_brk {k : ME → MH → RS} : (RS.brk μ h).then k = .brk μ h := of_eq_true (eq_self _)
@[simp] theorem then_cnt {k : ME → MH → RS} : (RS.cnt μ h).then k = .cnt μ h := of_eq_true (eq_self _)
@[simp] theorem only_next : (RS.next μ h).only = .next μ h := of_eq_true (eq_self _)
@[simp] theorem retE_ev : retE v μ h = .ok v h := of_eq_true (eq_self _)
@[simp] theorem var_0 : varE 0 (some v :: μ) h = .ok v h := of_eq_true (eq_self _)
@[simp] theorem var_s {x : Option MV} : varE (n + 1) (x :: μ) h = varE n μ h := of_eq_true (eq_self _)
@[simp] theorem bin_ev : binE o2 f g μ h = (f μ h).bind fun x h1 => (g μ h1).bind fun y h2 => o2 x y h2 := of_eq_true (eq_self _)
@[simp] theorem un_ev : unE o1 f μ h = (f μ h).bind fun x h1 => o1 x h1 := of_eq_true (eq_self _)
@[simp] theorem nil_ev : nilA μ h = .ok [] h := of_eq_true (eq_self _)
@[simp] theorem cons_ev : consA f a μ h = (f μ h).bind fun x h1 => (a μ h1).bind fun xs h2 => .ok (x :: xs) h2 := of_eq_true (eq_self _)
@[simp] theorem call_ev : callE o a μ h = (a μ h).bind fun xs h1 => o xs h1 := of_eq_true (eq_self _)
@[simp] theorem len_ev : lenA n a μ h = (a μ h).bind fun xs h1 => if xs.length = n then .ok xs h1 else .bad := of_eq_true (eq_self _)
@[simp] theorem tup_ev : tupE a μ h = (a μ h).bind fun xs h1 => if xs.length ≤ 1000 then .ok (.tup xs) h1 else .bad := of_eq_true (eq_self _)
@[simp] theorem lst_ev {md : Bool} : lstE md a μ h = (a μ h).bind fun xs h1 => if xs.length ≤ 1000 then mkL md xs h1 else .bad := of_eq_true (eq_self _)
@[simp] theorem mkL_f : mkL false xs h = .ok (.lst xs) h := of_eq_true (eq_self _)
@[simp] theorem mkL_t : mkL true xs h = .ok (.ref h.length) (h ++ [.lst xs]) := of_eq_true (eq_self _)
@[simp] theorem isB_ev {k : Bool} : isB (.bl k) h = .ok k h := of_eq_true (eq_self _)
@[simp] theorem test_ev : testT f μ h = (f μ h).bind isB := of_eq_true (eq_self _)
@[simp] theorem not_ev : notT c μ h = (c μ h).bind fun b h1 => .ok (!b) h1 := of_eq_true (eq_self _)
@[simp] theorem and_ev : andT c d μ h = (c μ h).bind fun b h1 => if b then d μ h1 else .ok false h1 := of_eq_true (eq_self _)
@[simp] theorem or_ev : orT c d μ h = (c μ h).bind fun b h1 => if b then .ok true h1 else d μ h1 := of_eq_true (eq_self _)
@[simp] theorem yes_ev : yesT μ h = .ok true h := of_eq_true (eq_self _)
@[simp] theorem notE_ev : notE f μ h = (f μ h).bind fun x h1 => (isB x h1).bind fun b h2 => .ok (.bl (!b)) h2 := of_eq_true (eq_self _)
@[simp] theorem andE_ev : andE f g μ h = (f μ h).bind fun x h1 => (isB x h1).bind fun b h2 => if b then g μ h2 else .ok (.bl false) h2 := of_eq_true (eq_self _)
@[simp] theorem orE_ev : orE f g μ h = (f μ h).bind fun x h1 => (isB x h1).bind fun b h2 => if b then .ok (.bl true) h2 else g μ h2 := of_eq_true (eq_self _)
@[simp] theorem if_ev : ifE c f g μ h = (c μ h).bind fun b h1 => if b then f μ h1 else g μ h1 := of_eq_true (eq_self _)
@[simp] theorem chain_ev {p q : MV → MV → MH → R MV} : chainE p q f g l μ h = (f μ h).bind fun x h1 => (g μ h1).bind fun y h2 => (p x y h2).bind fun c h3 => (isB c h3).bind fun b h4 => if b then (l μ h4).bind fun z h5 => q y z h5 else .ok (.bl false) h4 := of_eq_true (eq_self _)
@[simp] theorem seq_ev : seqS s t μ h = (s μ h).then t := of_eq_true (eq_self _)
@[simp] theorem skip_ev : skipS μ h = .next μ h := of_eq_true (eq_self _)
@[simp] theorem brk_ev : brkS μ h = .brk μ h := of_eq_true (eq_self _)
@[simp] theorem cnt_ev : cntS μ h = .cnt μ h := of_eq_true (eq_self _)
@[simp] theorem expr_ev : exprS f μ h = (f μ h).st μ fun _ h1 => .next μ h1 := of_eq_true (eq_self _)
@[simp] theorem ret_ev : retS f μ h = (f μ h).st μ fun v h1 => .ret v h1 := of_eq_true (eq_self _)
@[simp] theorem retN_ev : retN μ h = .ret .non h := of_eq_true (eq_self _)
@[simp] theorem ifS_ev : ifS c s t μ h = (c μ h).st μ fun b h1 => if b then s μ h1 else t μ h1 := of_eq_true (eq_self _)
@[simp] theorem asg_ev {G : GF} : asgS f G μ h = (f μ h).st μ fun v h1 => (G v μ h1).only := of_eq_true (eq_self _)
@[simp] theorem par_ev {G : GsF} : parS n a G μ h = (a μ h).st μ fun vs h1 => if vs.length ≤ 1000 ∧ vs.length = n then (G vs μ h1).only else .bad := of_eq_true (eq_self _)
@[simp] theorem name_ev : nameG i v μ h = .next (μ.set i (some v)) h := of_eq_true (eq_self _)
@[simp] theorem nilG_ev : nilG [] μ h = .next μ h := of_eq_true (eq_self _)
@[simp] theorem consG_ev {G : GF} {k : GsF} : consG G k (v :: xs) μ h = (G v μ h).then fun μ1 h1 => k xs μ1 h1 := of_eq_true (eq_self _)
@[simp] theorem rz_ev {C : Str} : rzS C f μ h = (f μ h).st μ fun v h1 => .exc C [v] μ h1 := of_eq_true (eq_self _)
@[simp] theorem ord_ev {ix : List Nat} {ds : List MV} : ordM ix ds o xs h = o (pickL (xs ++ ds) ix) h := of_eq_true (eq_self _)
@[simp] theorem pick_nil {l : List α} : pickL l [] = [] := of_eq_true (eq_self _)
@[simp] theorem pick_cons {l : List α} {is : List Nat} : pickL l (i :: is) = match l[i]? with | some x => x :: pickL l is | none => pickL l is := of_eq_true (eq_self _)
@[simp] theorem outR_ret : outR (.ret v h) = .ok v h := of_eq_true (eq_self _)
@[simp] theorem outR_next : outR (.next μ h) = .ok .non h := of_eq_true (eq_self _)
@[simp] theorem outR_exc {C : Str} : outR (.exc C xs μ h) = .exc C xs h := of_eq_true (eq_self _)
theorem gc_ok {v : MV} {h h' : MH} (e : h'.length ≤ h.length) : gcR h.length (.ok v h') = .ok v h' := if_pos e
@[simp] theorem gc_same : gcR h.length (.ok v h) = .ok v h := if_pos (Nat.le_refl _)
@[simp] theorem gc_exc {C : Str} : gcR h.length (.exc C xs h) = .exc C xs h := if_pos (Nat.le_refl _)
/-- all numbers in a heap are below its length -/
def wf (h : MH) : Bool := h.all (rbO h.length)
theorem gc_app {g : MH} (w : wf h = true) (r : rb h.length v = true) : gcR h.length (.ok v (h ++ g)) = .ok v h := by
  unfold gcR
  dsimp only
  split
  · rename_i hl
    rw [List.length_append] at hl
    have : g = [] := List.eq_nil_of_length_eq_zero (by omega)
    rw [this, List.append_nil]
  · rw [List.take_left, r, show h.all (rbO h.length) = true from w]
    rfl
end
end M

set_option Elab.async false
set_option linter.all false
set_option maxRecDepth 100000
set_option maxHeartbeats 4000000
/-! operations, evaluated; data with a Lean type -/
namespace M
open PySem PySem.Spec PyProof.Rows
open PySem.W (Datum Tup)
section
variable {h : MH} {x y v : MV} {xs ys : List MV} {i j : Int} {k : Nat} {md : Bool}
@[simp] theorem add_ii : addM md (.int i) (.int j) h = .ok (.int (i + j)) h := of_eq_true (eq_self _)
@[simp] theorem add_tt : addM md (.tup xs) (.tup ys) h = if xs.length + ys.length ≤ LIM then .ok (.tup (xs ++ ys)) h else .bad := of_eq_true (eq_self _)
@[simp] theorem add_ll : addM md (.lst xs) (.lst ys) h = if xs.length + ys.length ≤ LIM then mkL md (xs ++ ys) h else .bad := of_eq_true (eq_self _)
@[simp] theorem sub_ii : subM (.int i) (.int j) h = .ok (.int (i - j)) h := of_eq_true (eq_self _)
@[simp] theorem mul_ii : mulM md (.int i) (.int j) h = if mulOk i j then .ok (.int (i * j)) h else .bad := of_eq_true (eq_self _)
theorem mul_ti : mulM md (.tup xs) (.int j) h = if decide (-(2 ^ 63) ≤ j) && decide (j ≤ 1000) && decide (xs.length ≤ 1000) then .ok (.tup (List.replicate j.toNat xs).flatten) h else .bad := of_eq_true (eq_self _)
theorem mul_li : mulM md (.lst xs) (.int j) h = if decide (-(2 ^ 63) ≤ j) && decide (j < 2 ^ 63) && decide (xs.length * j.toNat ≤ LIM) then mkL md (List.replicate j.toNat xs).flatten h else .bad := of_eq_true (eq_self _)
@[simp] theorem fdiv_ii : fdivM (.int i) (.int j) h = if divOk i j then .ok (.int (i.fdiv j)) h else .bad := of_eq_true (eq_self _)
@[simp] theorem mod_ii : modM (.int i) (.int j) h = if j ≠ 0 then .ok (.int (i.fmod j)) h else .bad := by
  unfold modM intM
  by_cases e : j = 0 <;> simp [e]
@[simp] theorem pow_ii : powM (.int i) (.int j) h = if powOk i j then .ok (.int (i ^ j.toNat)) h else .bad := of_eq_true (eq_self _)
@[simp] theorem neg_i : negM (.int i) h = .ok (.int (-i)) h := of_eq_true (eq_self _)
@[simp] theorem lt_ii : ltM (.int i) (.int j) h = .ok (.bl (decide (i < j))) h := of_eq_true (eq_self _)
@[simp] theorem le_ii : leM (.int i) (.int j) h = .ok (.bl (decide (i ≤ j))) h := of_eq_true (eq_self _)
@[simp] theorem gt_ii : gtM (.int i) (.int j) h = .ok (.bl (decide (j < i))) h := of_eq_true (eq_self _)
@[simp] theorem ge_ii : geM (.int i) (.int j) h = .ok (.bl (decide (j ≤ i))) h := of_eq_true (eq_self _)
def isNon : MV → Bool
  | .non => true
  | _ => false
@[simp] theorem isNon_non : isNon .non = true := of_eq_true (eq_self _)
@[simp] theorem isNon_int : isNon (.int i) = false := of_eq_true (eq_self _)
@[simp] theorem isNon_bl {b : Bool} : isNon (.bl b) = false := of_eq_true (eq_self _)
@[simp] theorem isNon_str {b : Str} : isNon (.str b) = false := of_eq_true (eq_self _)
@[simp] theorem isNon_tup : isNon (.tup xs) = false := of_eq_true (eq_self _)
@[simp] theorem isNon_lst : isNon (.lst xs) = false := of_eq_true (eq_self _)
@[simp] theorem isNon_ref : isNon (.ref k) = false := of_eq_true (eq_self _)
@[simp] theorem isNon_ins {C : Str} : isNon (.ins C xs) = false := of_eq_true (eq_self _)
@[simp] theorem isNon_exc {C : Str} : isNon (.exc C xs) = false := of_eq_true (eq_self _)
@[simp] theorem is_n : isNM x .non h = .ok (.bl (isNon x)) h := by cases x <;> rfl
@[simp] theorem not_n : notNM x .non h = .ok (.bl (!isNon x)) h := by cases x <;> rfl
@[simp] theorem len_t : lenM [.tup xs] h = .ok (.int xs.length) h := of_eq_true (eq_self _)
@[simp] theorem len_l : lenM [.lst xs] h = .ok (.int xs.length) h := of_eq_true (eq_self _)
@[simp] theorem tup_t : tupM [.tup xs] h = .ok (.tup xs) h := of_eq_true (eq_self _)
@[simp] theorem tup_l : tupM [.lst xs] h = .ok (.tup xs) h := of_eq_true (eq_self _)
@[simp] theorem list_t : listM md [.tup xs] h = mkL md xs h := of_eq_true (eq_self _)
@[simp] theorem list_l : listM md [.lst xs] h = mkL md xs h := of_eq_true (eq_self _)
@[simp] theorem int_i : int1M [.int i] h = .ok (.int i) h := of_eq_true (eq_self _)
@[simp] theorem int_b {b : Bool} : int1M [.bl b] h = .ok (.int (if b then 1 else 0)) h := of_eq_true (eq_self _)
@[simp] theorem abs_i : absM [.int i] h = .ok (.int (if i < 0 then -i else i)) h := of_eq_true (eq_self _)
@[simp] theorem max_ii : max2M [.int i, .int j] h = .ok (.int (if j > i then j else i)) h := of_eq_true (eq_self _)
@[simp] theorem min_ii : min2M [.int i, .int j] h = .ok (.int (if j < i then j else i)) h := of_eq_true (eq_self _)
theorem bls_map : ∀ bs : List Bool, blsM (bs.map MV.bl) = some bs
  | [] => rfl
  | b :: bs => by
    show (blsM (bs.map MV.bl)).map (b :: ·) = _
    rw [bls_map bs]
    rfl
theorem ints_map : ∀ bs : List Int, intsM (bs.map MV.int) = some bs
  | [] => rfl
  | b :: bs => by
    show (intsM (bs.map MV.int)).map (b :: ·) = _
    rw [ints_map bs]
    rfl
@[simp] theorem all_l {bs : List Bool} : allM [.lst (bs.map MV.bl)] h = .ok (.bl (bs.all id)) h := by
  show (match blsM (bs.map MV.bl) with | some bs => R.ok (MV.bl (bs.all id)) h | none => .bad) = _
  rw [bls_map]
@[simp] theorem any_l {bs : List Bool} : anyM [.lst (bs.map MV.bl)] h = .ok (.bl (bs.any id)) h := by
  show (match blsM (bs.map MV.bl) with | some bs => R.ok (MV.bl (bs.any id)) h | none => .bad) = _
  rw [bls_map]
@[simp] theorem sum_l {bs : List Int} : sumM [.lst (bs.map MV.int)] h = .ok (.int bs.sum) h := by
  show (match intsM (bs.map MV.int) with | some bs => R.ok (MV.int bs.sum) h | none => .bad) = _
  rw [ints_map]
@[simp] theorem ix_t : ixM (.tup xs) (.int i) h = match L2.atI xs i with | some v => .ok v h | none => .bad := of_eq_true (eq_self _)
@[simp] theorem ix_l : ixM (.lst xs) (.int i) h = match L2.atI xs i with | some v => .ok v h | none => .bad := of_eq_true (eq_self _)
theorem at_nat {α : Type} {xs : List α} {k : Nat} : L2.atI xs (k : Int) = xs[k]? := by
  unfold L2.atI L2.ixN
  rw [if_pos (Int.natCast_nonneg k)]
  by_cases hk : k < xs.length
  · rw [if_pos (by omega)]
    rfl
  · rw [if_neg (by omega), List.getElem?_eq_none_iff.mpr (by omega)]
    rfl
theorem at_of {α : Type} {xs : List α} {i : Int} (h0 : 0 ≤ i) : L2.atI xs i = xs[i.toNat]? := by
  obtain ⟨k, rfl⟩ := Int.eq_ofNat_of_zero_le h0
  exact at_nat
@[simp] theorem at_0 {α : Type} {a : α} {l : List α} : L2.atI (a :: l) 0 = some a := by
  rw [at_of (by decide)]
  rfl
@[simp] theorem at_1 {α : Type} {a b : α} {l : List α} : L2.atI (a :: b :: l) 1 = some b := by
  rw [at_of (by decide)]
  rfl
@[simp] theorem at_2 {α : Type} {a b c : α} {l : List α} : L2.atI (a :: b :: c :: l) 2 = some c := by
  rw [at_of (by decide)]
  rfl
@[simp] theorem at_3 {α : Type} {a b c d : α} {l : List α} : L2.atI (a :: b :: c :: d :: l) 3 = some d := by
  rw [at_of (by decide)]
  rfl
/-! isinstance, of built-in types -/
variable {ins es : List Str} {sub : Str → Str → Bool}
theorem insKn_int : insKn ins h (.int i) = true := rfl
@[simp] theorem isi_int_int : isiM ins es sub (.bt "int") (.int i) h = .ok (.bl true) h := of_eq_true (eq_self _)
@[simp] theorem isi_int_bl {b : Bool} : isiM ins es sub (.bt "int") (.bl b) h = .ok (.bl true) h := of_eq_true (eq_self _)
@[simp] theorem isi_int_non : isiM ins es sub (.bt "int") .non h = .ok (.bl false) h := of_eq_true (eq_self _)
@[simp] theorem isi_int_str {s : Str} : isiM ins es sub (.bt "int") (.str s) h = .ok (.bl false) h := of_eq_true (eq_self _)
@[simp] theorem isi_int_tup : isiM ins es sub (.bt "int") (.tup xs) h = .ok (.bl false) h := of_eq_true (eq_self _)
@[simp] theorem isi_int_lst : isiM ins es sub (.bt "int") (.lst xs) h = .ok (.bl false) h := of_eq_true (eq_self _)
@[simp] theorem isi_bool_int : isiM ins es sub (.bt "bool") (.int i) h = .ok (.bl false) h := of_eq_true (eq_self _)
@[simp] theorem isi_bool_bl {b : Bool} : isiM ins es sub (.bt "bool") (.bl b) h = .ok (.bl true) h := of_eq_true (eq_self _)
@[simp] theorem isi_bool_non : isiM ins es sub (.bt "bool") .non h = .ok (.bl false) h := of_eq_true (eq_self _)
@[simp] theorem isi_bool_str {s : Str} : isiM ins es sub (.bt "bool") (.str s) h = .ok (.bl false) h := of_eq_true (eq_self _)
@[simp] theorem isi_bool_tup : isiM ins es sub (.bt "bool") (.tup xs) h = .ok (.bl false) h := of_eq_true (eq_self _)
@[simp] theorem isi_bool_lst : isiM ins es sub (.bt "bool") (.lst xs) h = .ok (.bl false) h := of_eq_true (eq_self _)
@[simp] theorem isi_lt_tup : isiTN ins sub ["list", "tuple"] (.tup xs) h = .ok (.bl true) h := of_eq_true (eq_self _)
@[simp] theorem isi_lt_lst : isiTN ins sub ["list", "tuple"] (.lst xs) h = .ok (.bl true) h := of_eq_true (eq_self _)
@[simp] theorem isi_lt_int : isiTN ins sub ["list", "tuple"] (.int i) h = .ok (.bl false) h := of_eq_true (eq_self _)
@[simp] theorem isi_lt_bl {b : Bool} : isiTN ins sub ["list", "tuple"] (.bl b) h = .ok (.bl false) h := of_eq_true (eq_self _)
@[simp] theorem isi_lt_non : isiTN ins sub ["list", "tuple"] .non h = .ok (.bl false) h := of_eq_true (eq_self _)
@[simp] theorem isi_lt_str {s : Str} : isiTN ins sub ["list", "tuple"] (.str s) h = .ok (.bl false) h := of_eq_true (eq_self _)
/-! equality of whole numbers -/
theorem beqI (i j : Int) : PyData.eqv (.int i) (.int j) = decide (i = j) := Datum.eqv i j
@[simp] theorem eq_ii : eqM (.int i) (.int j) h = .ok (.bl (decide (i = j))) h := by
  show (if SeqAt.shaped (.int i) && SeqAt.shaped (.int j) then R.ok (MV.bl (PyData.eqv (.int i) (.int j))) h else .bad) = _
  rw [beqI]
  rfl
@[simp] theorem ne_ii : neM (.int i) (.int j) h = .ok (.bl (!decide (i = j))) h := by
  show (if SeqAt.shaped (.int i) && SeqAt.shaped (.int j) then R.ok (MV.bl (!PyData.eqv (.int i) (.int j))) h else .bad) = _
  rw [beqI]
  rfl
@[simp] theorem eqK_ii {t : EqT} : eqK ins (eqA t) (.int i) (.int j) h = .ok (.bl (decide (i = j))) h := eq_ii
@[simp] theorem neK_ii {t : EqT} : eqK ins (neA t) (.int i) (.int j) h = .ok (.bl (!decide (i = j))) h := ne_ii
end
/-! ### data with a Lean type -/
class En (α : Type) [DecidableEq α] [Datum α] where
  en : α → MV
  tod : ∀ (h : MH) (n : Nat) (a : α), Datum.depth α ≤ n → toD h n (en a) = some (Datum.toD a)
  rb : ∀ (n : Nat) (a : α), rb n (en a) = true
  lay : ∀ a : α, (Datum.toD a).canLay0 = true
  pl : ∀ (h : MH) (a : α), insOf h (en a) = none ∧ insKn [] h (en a) = true
abbrev en {α : Type} [DecidableEq α] [Datum α] [En α] (a : α) : MV := En.en a
instance : En Int := ⟨.int, fun _ n _ _ => by cases n <;> rfl, fun _ _ => rfl, fun _ => rfl, fun _ _ => ⟨rfl, rfl⟩⟩
section
variable {α β : Type} [DecidableEq α] [Datum α] [En α] [DecidableEq β] [Datum β] [En β]
theorem toDs_map {h : MH} {n : Nat} (hn : Datum.depth α ≤ n) : ∀ xs : List α, toDs (toD h n) (xs.map en) = some (xs.map Datum.toD)
  | [] => rfl
  | x :: xs => by
    show (match toD h n (en x), toDs (toD h n) (xs.map en) with | some d, some ds => some (d :: ds) | _, _ => none) = _
    rw [En.tod h n x hn, toDs_map hn xs]
    rfl
theorem rbs_map (n : Nat) : ∀ xs : List α, rbs n (xs.map en) = true
  | [] => rfl
  | x :: xs => by
    show (M.rb n (en x) && rbs n (xs.map en)) = true
    rw [En.rb, rbs_map n xs]
    rfl
theorem lay_map : ∀ xs : List α, PyData.canLayAll0 (xs.map Datum.toD) = true
  | [] => rfl
  | x :: xs => by
    rw [List.map_cons, PyData.canLayAll0, En.lay x, lay_map xs]
    rfl
instance : En (List α) := ⟨fun xs => .lst (xs.map en), fun h n xs hn => by
  cases n with
  | zero => cases hn
  | succ n =>
    show (toDs (toD h n) (xs.map en)).map PyData.list = _
    rw [toDs_map (Nat.le_of_succ_le_succ hn)]
    rfl, fun n xs => rbs_map n xs, fun xs => by
    show (PyData.list (xs.map Datum.toD)).canLay0 = true
    rw [PyData.canLay0]
    exact lay_map xs, fun _ _ => ⟨rfl, rfl⟩⟩
instance : En (Tup α) := ⟨fun xs => .tup (xs.items.map en), fun h n xs hn => by
  cases n with
  | zero => cases hn
  | succ n =>
    show (toDs (toD h n) (xs.items.map en)).map PyData.tuple = _
    rw [toDs_map (Nat.le_of_succ_le_succ hn)]
    rfl, fun n xs => rbs_map n xs.items, fun xs => by
    show (PyData.tuple (xs.items.map Datum.toD)).canLay0 = true
    rw [PyData.canLay0]
    exact lay_map xs.items, fun _ _ => ⟨rfl, rfl⟩⟩
instance : En (α × β) := ⟨fun p => .tup [en p.1, en p.2], fun h n p hn => by
  cases n with
  | zero => cases hn
  | succ n =>
    have h1 : Datum.depth α ≤ n := Nat.le_trans (Nat.le_max_left _ _) (Nat.le_of_succ_le_succ hn)
    have h2 : Datum.depth β ≤ n := Nat.le_trans (Nat.le_max_right _ _) (Nat.le_of_succ_le_succ hn)
    show (match toD h n (en p.1), (match toD h n (en p.2), some [] with | some d, some ds => some (d :: ds) | _, _ => none) with | some d, some ds => some (d :: ds) | _, _ => none).map PyData.tuple = _
    rw [En.tod h n p.1 h1, En.tod h n p.2 h2]
    rfl, fun n p => by
    show (M.rb n (en p.1) && (M.rb n (en p.2) && true)) = true
    rw [En.rb, En.rb]
    rfl, fun p => by
    show (PyData.tuple [Datum.toD p.1, Datum.toD p.2]).canLay0 = true
    rw [PyData.canLay0, PyData.canLayAll0, PyData.canLayAll0, En.lay, En.lay]
    rfl, fun _ _ => ⟨rfl, rfl⟩⟩
theorem en_list (xs : List α) : en xs = .lst (xs.map en) := rfl
theorem en_tup (xs : List α) : en (Tup.mk xs) = .tup (xs.map en) := rfl
theorem en_pair (p : α × β) : en p = .tup [en p.1, en p.2] := rfl
theorem en_int (i : Int) : en i = .int i := rfl
theorem en_ints (xs : List Int) : xs.map en = xs.map MV.int := rfl
theorem shaped_en (hd : Datum.depth α ≤ 64) (a : α) : SeqAt.shaped (Datum.toD a) = true := by
  unfold SeqAt.shaped
  rw [En.lay, decide_eq_true (Nat.le_trans (Datum.depth_le a) hd)]
  rfl
theorem eq_en {h : MH} (hd : Datum.depth α ≤ 64) (a b : α) : eqM (en a) (en b) h = .ok (.bl (decide (a = b))) h := by
  unfold eqM
  rw [En.tod h 64 a hd, En.tod h 64 b hd]
  dsimp only
  rw [shaped_en hd, shaped_en hd, Datum.eqv]
  rfl
theorem ne_en {h : MH} (hd : Datum.depth α ≤ 64) (a b : α) : neM (en a) (en b) h = .ok (.bl (!decide (a = b))) h := by
  unfold neM
  rw [En.tod h 64 a hd, En.tod h 64 b hd]
  dsimp only
  rw [shaped_en hd, shaped_en hd, Datum.eqv]
  rfl
end
end M

set_option Elab.async false
set_option linter.all false
set_option maxRecDepth 100000
set_option maxHeartbeats 4000000
/-! the pen -/
namespace M
open PySem PySem.Spec PyProof.Rows
/-- what draws: the cells, the next one's index, what is left of a great one -/
def pnO (cells : List Int) (at_ l : Int) : MO := .lst [.lst (cells.map MV.int), .int at_, .int l]
section
variable {cells : List Int} {a l v : Int} {t : MH} {μ : ME} {o i : EF} {w : MV} {h : MH}
@[simp] theorem sub_ev : subG o i w μ h = (o μ h).st μ fun ov h1 => (i μ h1).st μ fun iv h2 => match setM ov iv w h2 with | some h3 => .next μ h3 | none => .bad := of_eq_true (eq_self _)
theorem ixN_0 {n : Nat} : L2.ixN (n + 1) 0 = some 0 := by
  unfold L2.ixN
  rw [if_pos (by decide), if_pos (by omega)]
  rfl
theorem ixN_1 {n : Nat} : L2.ixN (n + 2) 1 = some 1 := by
  unfold L2.ixN
  rw [if_pos (by decide), if_pos (by omega)]
  rfl
theorem ixN_2 {n : Nat} : L2.ixN (n + 3) 2 = some 2 := by
  unfold L2.ixN
  rw [if_pos (by decide), if_pos (by omega)]
  rfl
theorem ix_ref {x : MO} {xs : List MV} {j : Int} (e : x = .lst xs) : ixM (.ref 0) (.int j) (x :: t) = match L2.atI xs j with | some v => .ok v (x :: t) | none => .bad := by
  subst e
  rfl
@[simp] theorem pen_0 : ixM (.ref 0) (.int 0) (pnO cells a l :: t) = .ok (.lst (cells.map MV.int)) (pnO cells a l :: t) := (ix_ref (x := pnO cells a l) rfl).trans (by rw [at_0])
@[simp] theorem pen_1 : ixM (.ref 0) (.int 1) (pnO cells a l :: t) = .ok (.int a) (pnO cells a l :: t) := (ix_ref (x := pnO cells a l) rfl).trans (by rw [at_1])
@[simp] theorem pen_2 : ixM (.ref 0) (.int 2) (pnO cells a l :: t) = .ok (.int l) (pnO cells a l :: t) := (ix_ref (x := pnO cells a l) rfl).trans (by rw [at_2])
@[simp] theorem pen_s1 : setM (.ref 0) (.int 1) (.int v) (pnO cells a l :: t) = some (pnO cells v l :: t) := by
  show (match L2.ixN 3 1 with | some j => some (List.set (pnO cells a l :: t) 0 (.lst (List.set [.lst (cells.map MV.int), .int a, .int l] j (.int v)))) | none => none) = _
  rw [ixN_1]
  rfl
@[simp] theorem pen_s2 : setM (.ref 0) (.int 2) (.int v) (pnO cells a l :: t) = some (pnO cells a v :: t) := by
  show (match L2.ixN 3 2 with | some j => some (List.set (pnO cells a l :: t) 0 (.lst (List.set [.lst (cells.map MV.int), .int a, .int l] j (.int v)))) | none => none) = _
  rw [ixN_2]
  rfl
theorem neK_l0 {ins : List Str} {t : EqT} {h : MH} {cells : List Int} : eqK ins (neA t) (.lst (cells.map MV.int)) (.lst []) h = .ok (.bl (!decide (cells = []))) h := ne_en (α := List Int) (by decide) cells []
theorem neK_l00 {ins : List Str} {t : EqT} {h : MH} : eqK ins (neA t) (.lst []) (.lst []) h = .ok (.bl false) h := ne_en (α := List Int) (by decide) [] []
theorem cell_at {cells : List Int} {x : Int} (h0 : 0 ≤ x) (h : x < cells.length) : ∃ c, L2.atI (cells.map MV.int) x = some (.int c) := by
  rw [at_of h0]
  refine ⟨cells[x.toNat], ?_⟩
  rw [List.getElem?_map, List.getElem?_eq_getElem (by omega)]
  rfl
end
end M

set_option Elab.async false
set_option linter.all false
set_option maxRecDepth 100000
set_option maxHeartbeats 4000000
/-! loops and comprehensions -/
namespace M
open PySem PySem.Spec PyProof.Rows
/-- what is walked: these items, whatever the heap -/
def Its (mi : MI) (xs : List MV) : Prop := ∀ k h, mi k h = some xs[k]?
theorem its_tup (xs : List MV) : Its (seqI (.tup xs)) xs := fun _ _ => rfl
theorem its_lst (xs : List MV) : Its (seqI (.lst xs)) xs := fun _ _ => rfl
/-- the items of a range -/
def rgs (lo : Int) (n : Nat) : List MV := (List.range n).map fun (k : Nat) => MV.int (lo + (k : Int))
theorem its_rng (lo : Int) (n : Nat) : Its (rngI lo n) (rgs lo n) := fun k h => by
  unfold rngI rgs
  rw [List.getElem?_map]
  by_cases hk : k < n
  · rw [if_pos hk, List.getElem?_range hk]
    rfl
  · rw [if_neg hk, List.getElem?_eq_none_iff.mpr (by rw [List.length_range]; omega)]
    rfl
theorem rgs_len {lo : Int} {n : Nat} : (rgs lo n).length = n := by
  unfold rgs
  rw [List.length_map, List.length_range]
theorem rgs_get {lo : Int} {n k : Nat} (h : k < n) : (rgs lo n)[k]? = some (.int (lo + (k : Int))) := by
  unfold rgs
  rw [List.getElem?_map, List.getElem?_range h]
  rfl
section
variable {μ : ME} {h h' : MH} {f : EF} {a : AF} {xs ys : List MV} {md : Bool} {it : IF} {c : CT} {t : TF} {e : EF} {own cl : List Nat} {i : Nat} {mi : MI} {g : GF} {body : SF} {v : MV}
def seqK (x : MV) (h1 : MH) : R MI := match seqM h1 x with
  | some _ => .ok (seqI x) h1
  | none => match x with
    | .dic ks _ => .ok (fun k _ => some (ks.map kM)[k]?) h1
    | .dicT ks _ => .ok (fun k _ => some (ks.map fun k => MV.tup (k.map kM))[k]?) h1
    | _ => .bad
@[simp] theorem seqIt_ev : seqIt f μ h = (f μ h).bind seqK := of_eq_true (eq_self _)
@[simp] theorem seqK_tup : seqK (.tup xs) h = .ok (seqI (.tup xs)) h := of_eq_true (eq_self _)
@[simp] theorem seqK_lst : seqK (.lst xs) h = .ok (seqI (.lst xs)) h := of_eq_true (eq_self _)
def rng1K (xs : List MV) (h1 : MH) : R MI := match xs with
  | [.int j] => if small62 j then .ok (rngI 0 j.toNat) h1 else .bad
  | _ => .bad
def rng2K (xs : List MV) (h1 : MH) : R MI := match xs with
  | [.int i, .int j] => if small62 i && small62 j then .ok (rngI i (j - i).toNat) h1 else .bad
  | _ => .bad
@[simp] theorem rng1_ev : rng1It a μ h = (a μ h).bind rng1K := of_eq_true (eq_self _)
@[simp] theorem rng2_ev : rng2It a μ h = (a μ h).bind rng2K := of_eq_true (eq_self _)
theorem rng1K_i {j : Int} : rng1K [.int j] h = if small62 j then .ok (rngI 0 j.toNat) h else .bad := rfl
theorem rng2K_i {i j : Int} : rng2K [.int i, .int j] h = if small62 i && small62 j then .ok (rngI i (j - i).toNat) h else .bad := rfl
@[simp] theorem lc_ev : lcE md it c t e own μ h = (it μ h).bind fun mi h1 => (lcLoop mi c t e FUEL 0 (wipeM μ own) h1 []).bind fun acc h2 => mkL md acc h2 := of_eq_true (eq_self _)
@[simp] theorem for_ev : forS cl it g body μ h = (it μ h).st μ fun mi h1 => forLoop mi cl g body FUEL 0 μ h1 := of_eq_true (eq_self _)
@[simp] theorem while_ev : whileS cl t body μ h = whileLoop cl t body FUEL μ h := of_eq_true (eq_self _)
@[simp] theorem wipe_nil : wipeM μ [] = μ := of_eq_true (eq_self _)
@[simp] theorem wipe_cons : wipeM μ (i :: own) = (wipeM μ own).set i none := of_eq_true (eq_self _)
theorem small_of {i : Int} (h0 : 0 ≤ i) (h1 : i ≤ 1000000) : small62 i = true := by
  unfold small62
  simp
  omega
theorem rng1K_n {n : Nat} (hn : n ≤ 1000000) : rng1K [.int n] h = .ok (rngI 0 n) h := by
  rw [rng1K_i, if_pos (small_of (by omega) (by omega)), Int.toNat_natCast]
theorem rng2K_n {lo : Int} {n : Nat} {hi : Int} (h0 : 0 ≤ lo) (e : hi = lo + n) (hn : hi ≤ 1000000) : rng2K [.int lo, .int hi] h = .ok (rngI lo n) h := by
  subst e
  rw [rng2K_i, small_of h0 (by omega), small_of (by omega) hn, Bool.and_self, if_pos rfl, show (lo + (n : Int) - lo).toNat = n by omega]
/-! comprehensions -/
theorem lc_wp (hm : Its mi xs) (hn : xs.length < 1000000) (P : Nat → MH → List MV → Prop)
    (hs : ∀ k x h acc, xs[k]? = some x → acc.length ≤ k → P k h acc → ∃ μ1, bindM h c x μ = some μ1 ∧ ∃ b h1, t μ1 h = .ok b h1 ∧ (b = true → ∃ y h2, e μ1 h1 = .ok y h2 ∧ P (k + 1) h2 (acc ++ [y])) ∧ (b = false → P (k + 1) h1 acc))
    (h0 : P 0 h []) : ∃ acc h', lcLoop mi c t e FUEL 0 μ h [] = .ok acc h' ∧ P xs.length h' acc := by
  have go : ∀ (d k f : Nat) (h : MH) (acc : List MV), k + d = xs.length → d < f → acc.length ≤ k → P k h acc → ∃ acc' h', lcLoop mi c t e f k μ h acc = .ok acc' h' ∧ P xs.length h' acc' := by
    intro d
    induction d with
    | zero =>
      intro k f h acc hk hf ha hp
      obtain ⟨f, rfl⟩ : ∃ g, f = g + 1 := ⟨f - 1, by omega⟩
      refine ⟨acc, h, ?_, ?_⟩
      · unfold lcLoop
        rw [hm k h, List.getElem?_eq_none_iff.mpr (by omega)]
      · have : k = xs.length := by omega
        subst this
        exact hp
    | succ d ih =>
      intro k f h acc hk hf ha hp
      obtain ⟨f, rfl⟩ : ∃ g, f = g + 1 := ⟨f - 1, by omega⟩
      have hx : xs[k]? = some xs[k] := List.getElem?_eq_getElem (by omega)
      obtain ⟨μ1, e1, b, h1, e2, q1, q2⟩ := hs k _ h acc hx ha hp
      unfold lcLoop
      rw [hm k h, hx]
      dsimp only
      rw [e1]
      dsimp only
      rw [e2]
      cases b with
      | true =>
        obtain ⟨y, h2, e3, q3⟩ := q1 rfl
        show ∃ acc' h', ((e μ1 h1).noexc.bind fun y h2 => if acc.length < LIM then lcLoop mi c t e f (k + 1) μ h2 (acc ++ [y]) else .bad) = .ok acc' h' ∧ P xs.length h' acc'
        rw [e3]
        show ∃ acc' h', (if acc.length < LIM then lcLoop mi c t e f (k + 1) μ h2 (acc ++ [y]) else .bad) = .ok acc' h' ∧ P xs.length h' acc'
        rw [if_pos (show acc.length < LIM by have : LIM = 1000000 := rfl; omega)]
        exact ih (k + 1) f h2 (acc ++ [y]) (by omega) (by omega) (by rw [List.length_append]; simp only [List.length_cons, List.length_nil]; omega) q3
      | false => exact ih (k + 1) f h1 acc (by omega) (by omega) (by omega) (q2 rfl)
  exact go xs.length 0 FUEL h [] (by omega) (by have : FUEL = 1000000 := rfl; omega) (Nat.le_refl _) h0
/-- each item gives a value, the heap stays -/
theorem lc_map (hm : Its mi xs) (hn : xs.length < 1000000) (F : MV → MV) (he : ∀ x ∈ xs, e (μ.set i (some x)) h = .ok (F x) h) : lcLoop mi (CT.one i) yesT e FUEL 0 μ h [] = .ok (xs.map F) h := by
  obtain ⟨acc, h', e1, rfl, e3⟩ := lc_wp (c := CT.one i) (t := yesT) (e := e) (μ := μ) (h := h) hm hn (fun k h' acc => h' = h ∧ acc = (xs.take k).map F) (fun k x h' acc hx ha ⟨hp, hq⟩ => by
    subst hp hq
    refine ⟨_, rfl, true, _, rfl, fun _ => ⟨F x, _, he x (List.mem_of_getElem? hx), rfl, ?_⟩, fun z => by cases z⟩
    rw [List.take_succ, hx, List.map_append]
    rfl) ⟨rfl, rfl⟩
  rw [e1, e3, List.take_length]
/-- .. those of which a test is so -/
theorem lc_filter (hm : Its mi xs) (hn : xs.length < 1000000) (T : MV → Bool) (F : MV → MV) (ht : ∀ x ∈ xs, t (μ.set i (some x)) h = .ok (T x) h) (he : ∀ x ∈ xs, T x = true → e (μ.set i (some x)) h = .ok (F x) h) : lcLoop mi (CT.one i) t e FUEL 0 μ h [] = .ok ((xs.filter T).map F) h := by
  obtain ⟨acc, h', e1, rfl, e3⟩ := lc_wp (c := CT.one i) (t := t) (e := e) (μ := μ) (h := h) hm hn (fun k h' acc => h' = h ∧ acc = ((xs.take k).filter T).map F) (fun k x h' acc hx ha ⟨hp, hq⟩ => by
    subst hp hq
    have mx := List.mem_of_getElem? hx
    refine ⟨_, rfl, T x, _, ht x mx, fun hT => ⟨F x, _, he x mx hT, rfl, ?_⟩, fun hT => ⟨rfl, ?_⟩⟩
    · rw [List.take_succ, hx, List.filter_append, List.map_append]
      simp [hT]
    · rw [List.take_succ, hx, List.filter_append, List.map_append]
      simp [hT]) ⟨rfl, rfl⟩
  rw [e1, e3, List.take_length]
/-! for -/
def LoopStep (cl : List Nat) (P : ME → MH → Prop) (Q : RS → Prop) : RS → Prop
  | .next μ h => P (wipeM μ cl) h
  | .cnt μ h => P (wipeM μ cl) h
  | .brk μ h => Q (.next (wipeM μ cl) h)
  | r => Q r
theorem for_wp (hm : Its mi xs) (hn : xs.length < 1000000) (P : Nat → ME → MH → Prop) (Q : RS → Prop)
    (hs : ∀ k x μ h, xs[k]? = some x → P k μ h → LoopStep cl (P (k + 1)) Q (((g x μ h).only).then body)) (he : ∀ μ h, P xs.length μ h → Q (.next μ h)) (h0 : P 0 (wipeM μ cl) h) : Q (forLoop mi cl g body FUEL 0 μ h) := by
  have go : ∀ (d k f : Nat) (μ : ME) (h : MH), k + d = xs.length → d < f → P k (wipeM μ cl) h → Q (forLoop mi cl g body f k μ h) := by
    intro d
    induction d with
    | zero =>
      intro k f μ h hk hf hp
      obtain ⟨f, rfl⟩ : ∃ g, f = g + 1 := ⟨f - 1, by omega⟩
      unfold forLoop
      rw [hm k h, List.getElem?_eq_none_iff.mpr (by omega)]
      have : k = xs.length := by omega
      subst this
      exact he _ _ hp
    | succ d ih =>
      intro k f μ h hk hf hp
      obtain ⟨f, rfl⟩ : ∃ g, f = g + 1 := ⟨f - 1, by omega⟩
      have hx : xs[k]? = some xs[k] := List.getElem?_eq_getElem (by omega)
      have z := hs k _ _ h hx hp
      unfold forLoop
      rw [hm k h, hx]
      dsimp only
      generalize ((g xs[k] (wipeM μ cl) h).only).then body = r at z ⊢
      cases r with
      | next μ1 h1 => exact ih (k + 1) f μ1 h1 (by omega) (by omega) z
      | cnt μ1 h1 => exact ih (k + 1) f μ1 h1 (by omega) (by omega) z
      | brk μ1 h1 => exact z
      | ret v h1 => exact z
      | exc C vs μ1 h1 => exact z
      | bad => exact z
  exact go xs.length 0 FUEL μ h (by omega) (by have : FUEL = 1000000 := rfl; omega) h0
/-- a loop whose turns lead from state to state -/
theorem for_fold {σ : Type} (hm : Its mi xs) (hn : xs.length < 1000000) (St : σ → ME) (Sh : σ → MH) (step : σ → MV → σ) (s0 : σ) (h1 : wipeM μ cl = St s0) (h2 : h = Sh s0)
    (hs : ∀ s x, x ∈ xs → LoopStep cl (fun μ h => μ = St (step s x) ∧ h = Sh (step s x)) (fun _ => False) (((g x (St s) (Sh s)).only).then body)) :
    forLoop mi cl g body FUEL 0 μ h = .next (St (xs.foldl step s0)) (Sh (xs.foldl step s0)) := by
  refine for_wp hm hn (fun k μ h => μ = St ((xs.take k).foldl step s0) ∧ h = Sh ((xs.take k).foldl step s0)) (fun r => r = .next (St (xs.foldl step s0)) (Sh (xs.foldl step s0))) (fun k x μ h hx ⟨e1, e2⟩ => ?_) (fun μ h ⟨e1, e2⟩ => ?_) ⟨h1, h2⟩
  · subst e1 e2
    have z := hs ((xs.take k).foldl step s0) x (List.mem_of_getElem? hx)
    have e : (xs.take (k + 1)).foldl step s0 = step ((xs.take k).foldl step s0) x := by
      rw [List.take_succ, hx, List.foldl_append]
      rfl
    rw [e]
    generalize ((g x (St _) (Sh _)).only).then body = r at z ⊢
    cases r with
    | next μ1 h1 => exact z
    | cnt μ1 h1 => exact z
    | _ => exact z.elim
  · rw [e1, e2, List.take_length]
end
end M

set_option Elab.async false
set_option linter.all false
set_option maxRecDepth 100000
set_option maxHeartbeats 4000000
/-! values of which nothing more is known -/
namespace M
open PySem PySem.Spec PyProof.Rows L2 DL
/-- a list or a tuple, where it stands -/
def sq (h : MH) : MV → Option (List MV)
  | .tup xs => some xs
  | .lst xs => some xs
  | .ref i => match h[i]? with
    | some (.lst xs) => some xs
    | _ => none
  | _ => none
/-- no instance, no error, no raw value -/
def pl (h : MH) : MV → Bool
  | .non => true | .bl _ => true | .int _ => true | .str _ => true | .tup _ => true | .lst _ => true | .dic _ _ => true
  | .ref i => match h[i]? with
    | some (.lst _) => true
    | _ => false
  | _ => false
def isZ : MV → Bool
  | .int _ => true
  | _ => false
def isIB : MV → Bool
  | .int _ => true
  | .bl _ => true
  | _ => false
def isBl : MV → Bool
  | .bl _ => true
  | _ => false
/-- the int that a value is -/
def iv : MV → Int
  | .int i => i
  | _ => 0
section
variable {h : MH} {v : MV} {xs : List MV} {ins es : List Str} {sub : Str → Str → Bool}
@[simp] theorem isZ_i {i : Int} : isZ (.int i) = true := of_eq_true (eq_self _)
@[simp] theorem isZ_b {i : Bool} : isZ (.bl i) = false := of_eq_true (eq_self _)
@[simp] theorem isZ_n : isZ .non = false := of_eq_true (eq_self _)
@[simp] theorem isZ_s {s : Str} : isZ (.str s) = false := of_eq_true (eq_self _)
@[simp] theorem isZ_l : isZ (.lst xs) = false := of_eq_true (eq_self _)
@[simp] theorem isZ_t : isZ (.tup xs) = false := of_eq_true (eq_self _)
@[simp] theorem isZ_r {i : Nat} : isZ (.ref i) = false := of_eq_true (eq_self _)
@[simp] theorem isZ_d {ks : List Key} : isZ (.dic ks xs) = false := of_eq_true (eq_self _)
@[simp] theorem iv_i {i : Int} : iv (.int i) = i := of_eq_true (eq_self _)
@[simp] theorem sq_t : sq h (.tup xs) = some xs := of_eq_true (eq_self _)
@[simp] theorem sq_l : sq h (.lst xs) = some xs := of_eq_true (eq_self _)
@[simp] theorem sq_i {i : Int} : sq h (.int i) = none := of_eq_true (eq_self _)
@[simp] theorem sq_b {i : Bool} : sq h (.bl i) = none := of_eq_true (eq_self _)
@[simp] theorem sq_n : sq h .non = none := of_eq_true (eq_self _)
@[simp] theorem sq_s {s : Str} : sq h (.str s) = none := of_eq_true (eq_self _)
@[simp] theorem sq_d {ks : List Key} : sq h (.dic ks xs) = none := of_eq_true (eq_self _)
@[simp] theorem pl_t : pl h (.tup xs) = true := of_decide_eq_true rfl
@[simp] theorem pl_l : pl h (.lst xs) = true := of_decide_eq_true rfl
@[simp] theorem pl_i {i : Int} : pl h (.int i) = true := of_decide_eq_true rfl
@[simp] theorem pl_b {i : Bool} : pl h (.bl i) = true := of_decide_eq_true rfl
@[simp] theorem pl_n : pl h .non = true := of_decide_eq_true rfl
@[simp] theorem pl_s {s : Str} : pl h (.str s) = true := of_decide_eq_true rfl
@[simp] theorem pl_d {ks : List Key} : pl h (.dic ks xs) = true := of_decide_eq_true rfl
theorem sq_ref {i : Nat} (e : h[i]? = some (.lst xs)) : sq h (.ref i) = some xs := by
  unfold sq
  simp only [e]
theorem pl_ref {i : Nat} (e : h[i]? = some (.lst xs)) : pl h (.ref i) = true := by
  unfold pl
  simp only [e]
theorem pl_sq (e : sq h v = some xs) : pl h v = true := by
  unfold sq at e
  split at e
  · rfl
  · rfl
  · split at e
    · rename_i e1
      exact pl_ref e1
    · cases e
  · cases e
theorem isZ_of (v : MV) : (if isIB v = true then (R.ok (MV.bl !isBl v) h : R MV) else .ok (.bl false) h) = .ok (.bl (isZ v)) h := by
  cases v <;> rfl
theorem isZ_iv (e : isZ v = true) : v = .int (iv v) := by
  cases v <;> first | rfl | cases e
/-- what a plain value's type is -/
theorem ty_pl (p : pl h v = true) : liveOk ins es h v = true ∧ insKn ins h v = true ∧ ∃ b, tyM h v = .bt b ∧ (btSub b "int" = isIB v) ∧ (btSub b "bool" = isBl v) ∧ ((b == "list" || b == "tuple") = (sq h v).isSome) ∧ (b == "ValueError") = false := by
  cases v with
  | ref i =>
    unfold pl at p
    dsimp only at p
    split at p
    · rename_i ys e1
      unfold insKn liveOk tyM sq
      simp only [e1]
      exact ⟨trivial, trivial, "list", rfl, rfl, rfl, rfl, by decide⟩
    · cases p
  | non => exact ⟨rfl, rfl, _, rfl, rfl, rfl, rfl, by decide⟩
  | bl b => exact ⟨rfl, rfl, _, rfl, rfl, rfl, rfl, by decide⟩
  | int b => exact ⟨rfl, rfl, _, rfl, rfl, rfl, rfl, by decide⟩
  | str b => exact ⟨rfl, rfl, _, rfl, rfl, rfl, rfl, by decide⟩
  | tup b => exact ⟨rfl, rfl, _, rfl, rfl, rfl, rfl, by decide⟩
  | lst b => exact ⟨rfl, rfl, _, rfl, rfl, rfl, rfl, by decide⟩
  | dic b => exact ⟨rfl, rfl, _, rfl, rfl, rfl, rfl, by decide⟩
  | _ => cases p
theorem insKn_pl (p : pl h v = true) : insKn ins h v = true := (ty_pl (es := []) p).2.1
theorem isi_int (p : pl h v = true) : isiM ins es sub (.bt "int") v h = .ok (.bl (isIB v)) h := by
  obtain ⟨a1, a2, b, a3, a4, a5, a6, a7⟩ := ty_pl (ins := ins) (es := es) p
  unfold isiM
  rw [a1, a3]
  show (if _ then R.ok (MV.bl (btSub b "int")) h else _) = _
  rw [a4]
  exact if_pos rfl
theorem isi_bool (p : pl h v = true) : isiM ins es sub (.bt "bool") v h = .ok (.bl (isBl v)) h := by
  obtain ⟨a1, a2, b, a3, a4, a5, a6, a7⟩ := ty_pl (ins := ins) (es := es) p
  unfold isiM
  rw [a1, a3]
  show (if _ then R.ok (MV.bl (btSub b "bool")) h else _) = _
  rw [a5]
  exact if_pos rfl
theorem isi_own {C : Str} (p : pl h v = true) (e : askOk ins es (.own C) = true) : isiM ins es sub (.own C) v h = .ok (.bl false) h := by
  obtain ⟨a1, a2, b, a3, a4, a5, a6, a7⟩ := ty_pl (ins := ins) (es := es) p
  unfold isiM
  rw [a1, a3, e]
  rfl
theorem isi_lt (p : pl h v = true) : isiTN ins sub ["list", "tuple"] v h = .ok (.bl (sq h v).isSome) h := by
  obtain ⟨a1, a2, b, a3, a4, a5, a6, a7⟩ := ty_pl (ins := ins) (es := []) p
  unfold isiTN
  rw [a2, a3]
  have e : (["list", "tuple"].any fun c => kitR sub (.bt b) (.bt c)) = (b == "list" || b == "tuple") := by
    show (btSub b "list" || (btSub b "tuple" || false)) = _
    unfold btSub
    simp
  rw [e, a6]
  exact if_pos (by decide)
theorem seqM_sq (e : sq h v = some xs) : seqM h v = some xs := by
  unfold sq at e
  split at e
  · exact e
  · exact e
  · split at e
    · rename_i e1
      unfold seqM
      simp only [e1]
      exact e
    · cases e
  · cases e
theorem len_sq (e : sq h v = some xs) : lenM [v] h = .ok (.int xs.length) h := by
  unfold sq at e
  split at e
  · cases e
    rfl
  · cases e
    rfl
  · split at e
    · rename_i e1
      unfold lenM
      simp only [e1]
      cases e
      rfl
    · cases e
  · cases e
theorem seqK_sq (e : sq h v = some xs) : seqK v h = .ok (seqI v) h := by
  unfold seqK
  rw [seqM_sq e]
/-- an item -/
theorem ix_sq {i : Int} (e : sq h v = some xs) : ixM v (.int i) h = match L2.atI xs i with | some v => .ok v h | none => .bad := by
  unfold sq at e
  split at e
  · cases e
    rfl
  · cases e
    rfl
  · split at e
    · rename_i e1
      cases e
      unfold ixM dgetM seqM
      simp only [e1]
      try rfl
    · cases e
  · cases e
theorem tup_sq (e : sq h v = some xs) : tupM [v] h = .ok (.tup xs) h := by
  unfold sq at e
  split at e
  · cases e
    rfl
  · cases e
    rfl
  · split at e
    · rename_i e1
      cases e
      unfold tupM seqM
      simp only [e1]
    · cases e
  · cases e
theorem list_sq {md : Bool} (e : sq h v = some xs) : listM md [v] h = mkL md xs h := by
  unfold sq at e
  split at e
  · cases e
    rfl
  · cases e
    rfl
  · split at e
    · rename_i e1
      cases e
      unfold listM seqM
      simp only [e1]
    · cases e
  · cases e
/-- walked, while the heap stays -/
def ItsH (h : MH) (mi : MI) (xs : List MV) : Prop := ∀ k, mi k h = some xs[k]?
theorem its_sq (e : sq h v = some xs) : ItsH h (seqI v) xs := fun k => by
  unfold seqI
  rw [seqM_sq e]
  rfl
theorem its_h {mi : MI} (e : Its mi xs) : ItsH h mi xs := fun k => e k h
variable {mi : MI} {μ : ME} {i : Nat} {t : TF} {e : EF} {cl : List Nat} {g : GF} {body : SF}
/-- each item gives a value, the heap stays -/
theorem lc_mapH (hm : ItsH h mi xs) (hn : xs.length < 1000000) (T : MV → Bool) (F : MV → MV) (ht : ∀ x ∈ xs, t (μ.set i (some x)) h = .ok (T x) h) (he : ∀ x ∈ xs, T x = true → e (μ.set i (some x)) h = .ok (F x) h) : lcLoop mi (CT.one i) t e FUEL 0 μ h [] = .ok ((xs.filter T).map F) h := by
  have go : ∀ (d k f : Nat) (acc : List MV), k + d = xs.length → d < f → acc = ((xs.take k).filter T).map F → lcLoop mi (CT.one i) t e f k μ h acc = .ok ((xs.filter T).map F) h := by
    intro d
    induction d with
    | zero =>
      intro k f acc hk hf ha
      obtain ⟨f, rfl⟩ : ∃ g, f = g + 1 := ⟨f - 1, by omega⟩
      unfold lcLoop
      rw [hm k, List.getElem?_eq_none_iff.mpr (by omega), ha]
      have : k = xs.length := by omega
      subst this
      rw [List.take_length]
    | succ d ih =>
      intro k f acc hk hf ha
      obtain ⟨f, rfl⟩ : ∃ g, f = g + 1 := ⟨f - 1, by omega⟩
      have hx : xs[k]? = some xs[k] := List.getElem?_eq_getElem (by omega)
      have mx := List.mem_of_getElem? hx
      have la : acc.length ≤ k := by
        rw [ha, List.length_map]
        exact Nat.le_trans (List.length_filter_le _ _) (by rw [List.length_take]; omega)
      unfold lcLoop
      rw [hm k, hx]
      show ((t (μ.set i (some xs[k])) h).noexc.bind fun b h1 => if b then (e (μ.set i (some xs[k])) h1).noexc.bind fun y h2 => if acc.length < LIM then lcLoop mi (CT.one i) t e f (k + 1) μ h2 (acc ++ [y]) else .bad else lcLoop mi (CT.one i) t e f (k + 1) μ h1 acc) = _
      rw [ht _ mx]
      show (if T xs[k] then _ else _) = _
      by_cases hT : T xs[k] = true
      · rw [if_pos hT, he _ mx hT]
        show (if acc.length < LIM then lcLoop mi (CT.one i) t e f (k + 1) μ h (acc ++ [F xs[k]]) else .bad) = _
        rw [if_pos (show acc.length < LIM by have : LIM = 1000000 := rfl; omega)]
        refine ih (k + 1) f _ (by omega) (by omega) ?_
        rw [List.take_succ, hx, List.filter_append, List.map_append, ha]
        simp [hT]
      · rw [if_neg hT]
        refine ih (k + 1) f _ (by omega) (by omega) ?_
        rw [List.take_succ, hx, List.filter_append, List.map_append, ha]
        simp [hT]
  exact go xs.length 0 FUEL [] (by omega) (by have : FUEL = 1000000 := rfl; omega) rfl
theorem lc_allH (hm : ItsH h mi xs) (hn : xs.length < 1000000) (F : MV → MV) (he : ∀ x ∈ xs, e (μ.set i (some x)) h = .ok (F x) h) : lcLoop mi (CT.one i) yesT e FUEL 0 μ h [] = .ok (xs.map F) h := by
  rw [lc_mapH hm hn (fun _ => true) F (fun _ _ => rfl) fun x m _ => he x m]
  rw [List.filter_eq_self.mpr (fun _ _ => rfl)]
theorem all_B {α : Type} {l : List α} {B : α → Bool} : allM [.lst (l.map fun x => MV.bl (B x))] h = .ok (.bl (l.all B)) h := by
  have e : (l.map fun x => MV.bl (B x)) = (l.map B).map MV.bl := by rw [List.map_map]; rfl
  rw [e, all_l, List.all_map]
  rfl
theorem any_B {α : Type} {l : List α} {B : α → Bool} : anyM [.lst (l.map fun x => MV.bl (B x))] h = .ok (.bl (l.any B)) h := by
  have e : (l.map fun x => MV.bl (B x)) = (l.map B).map MV.bl := by rw [List.map_map]; rfl
  rw [e, any_l, List.any_map]
  rfl
/-- a loop that only looks, and leaves with an error or not at all -/
theorem for_look (hm : ItsH h mi xs) (hn : xs.length < 1000000) (b : MV → Bool) (C : Str) (vs : List MV)
    (hs : ∀ x ∈ xs, ∃ μ1, (((g x (wipeM μ cl) h).only).then body) = (if b x then .next μ1 h else .exc C vs μ1 h) ∧ wipeM μ1 cl = wipeM μ cl) :
    ∃ μ1, forLoop mi cl g body FUEL 0 μ h = if xs.all b then .next (wipeM μ cl) h else .exc C vs μ1 h := by
  have go : ∀ (d k f : Nat) (μ0 : ME), wipeM μ0 cl = wipeM μ cl → k + d = xs.length → d < f → ∃ μ1, forLoop mi cl g body f k μ0 h = if (xs.drop k).all b then .next (wipeM μ cl) h else .exc C vs μ1 h := by
    intro d
    induction d with
    | zero =>
      intro k f μ0 hw hk hf
      obtain ⟨f, rfl⟩ : ∃ g, f = g + 1 := ⟨f - 1, by omega⟩
      refine ⟨[], ?_⟩
      unfold forLoop
      rw [hm k, List.getElem?_eq_none_iff.mpr (by omega), List.drop_eq_nil_of_le (by omega), hw]
      rfl
    | succ d ih =>
      intro k f μ0 hw hk hf
      obtain ⟨f, rfl⟩ : ∃ g, f = g + 1 := ⟨f - 1, by omega⟩
      have hl : k < xs.length := by omega
      have hx : xs[k]? = some xs[k] := List.getElem?_eq_getElem hl
      obtain ⟨μ1, e1, e2⟩ := hs _ (List.mem_of_getElem? hx)
      unfold forLoop
      rw [hm k, hx]
      dsimp only
      rw [hw, e1, List.drop_eq_getElem_cons hl, List.all_cons]
      cases hb : b xs[k] with
      | true =>
        rw [if_pos rfl, Bool.true_and]
        exact ih (k + 1) f μ1 e2 (by omega) (by omega)
      | false => exact ⟨μ1, rfl⟩
  exact go xs.length 0 FUEL μ rfl (by omega) (by have : FUEL = 1000000 := rfl; omega)
end
end M
namespace M
open PySem PySem.Spec PyProof.Rows L2 DL
section
variable {h t : MH} {v : MV} {xs : List MV}
theorem get_app {i : Nat} {o : MO} (e : h[i]? = some o) : (h ++ t)[i]? = some o := by
  rw [List.getElem?_append_left (List.getElem?_eq_some_iff.mp e).1]
  exact e
theorem sq_mono (p : pl h v = true) : sq (h ++ t) v = sq h v := by
  cases v with
  | ref i =>
    unfold pl at p
    dsimp only at p
    split at p
    · rename_i ys e1
      rw [sq_ref e1, sq_ref (get_app e1)]
    · cases p
  | _ => rfl
theorem pl_mono (p : pl h v = true) : pl (h ++ t) v = true := by
  cases v with
  | ref i =>
    unfold pl at p
    dsimp only at p
    split at p
    · rename_i ys e1
      exact pl_ref (get_app e1)
    · cases p
  | _ => exact p
theorem all_eq {α : Type} {l : List α} {f g : α → Bool} (e : ∀ x ∈ l, f x = g x) : l.all f = l.all g := by
  induction l with
  | nil => rfl
  | cons a l ih =>
    rw [List.all_cons, List.all_cons, e a List.mem_cons_self, ih fun x m => e x (List.mem_cons_of_mem _ m)]
theorem map_eq {α β : Type} {l : List α} {f g : α → β} (e : ∀ x ∈ l, f x = g x) : l.map f = l.map g := List.map_congr_left e
@[simp] theorem get_new {x : MO} : (h ++ [x])[h.length]? = some x := by simp
@[simp] theorem set_new {x y : MO} : (h ++ [x]).set h.length y = h ++ [y] := by
  rw [List.set_append_right _ _ (Nat.le_refl _), Nat.sub_self]
  rfl
theorem gcx_app {C : Str} {vs : List MV} {g : MH} (w : wf h = true) (r : rbs h.length vs = true) : gcR h.length (.exc C vs (h ++ g)) = .exc C vs h := by
  unfold gcR
  dsimp only
  by_cases hl : (h ++ g).length ≤ h.length
  · rw [if_pos hl]
    have : g = [] := by
      rw [List.length_append] at hl
      exact List.length_eq_zero_iff.mp (by omega)
    rw [this, List.append_nil]
  · rw [if_neg hl, List.take_left' rfl, if_pos]
    rw [Bool.and_eq_true]
    exact ⟨r, w⟩
/-- what a call leaves is dropped, where it can be; be the heap's head changed -/
theorem gc_app' {v : MV} {n : Nat} {g : MH} (e : n = h.length) (w : wf h = true) (r : rb h.length v = true) : gcR n (.ok v (h ++ g)) = .ok v h := by
  subst e
  exact gc_app w r
theorem gc_keep {v : MV} {n : Nat} (r : rb n v = false) : gcR n (.ok v h) = .ok v h := by
  unfold gcR
  dsimp only
  rw [r]
  split
  · rfl
  · rfl
def fldK (t : InsT) (F : Flds) (fl : Str) (y x : MV) (μ : ME) (h2 : MH) : RS := match x with
  | .ref i => match h2[i]? with
    | some (.ins C fs) => if (hasF t C fl && decide (F C = [] ∨ fs.map (·.1) ≠ F C)) && decide (fs.length < 1000) then .next μ (h2.set i (.ins C (putM fl y fs))) else .bad
    | _ => .bad
  | _ => .bad
@[simp] theorem fldS_ev {t : InsT} {F : Flds} {fl : Str} {o w : EF} {μ : ME} : fldS t F fl o w μ h = (w μ h).st μ fun y h1 => (o μ h1).st μ fun x h2 => fldK t F fl y x μ h2 := of_eq_true (eq_self _)
theorem fldK_new {t : InsT} {F : Flds} {fl C : Str} {y : MV} {μ : ME} {fs : List (Str × MV)} : fldK t F fl y (.ref h.length) μ (h ++ [.ins C fs]) = if (hasF t C fl && decide (F C = [] ∨ fs.map (·.1) ≠ F C)) && decide (fs.length < 1000) then .next μ (h ++ [.ins C (putM fl y fs)]) else .bad := by
  unfold fldK
  simp only [get_new, set_new]
theorem fldM_new {t te : InsT} {F : Flds} {fl C : Str} {fs : List (Str × MV)} : fldM t te F fl (.ref h.length) (h ++ [.ins C fs]) = if hasF t C fl then match fs.lookup fl with | some v => .ok v (h ++ [.ins C fs]) | none => .bad else .bad := by
  unfold fldM
  simp only [get_new]
  try rfl
theorem fldM_ins {t te : InsT} {F : Flds} {fl C : Str} : fldM t te F fl (.ins C xs) h = if hasF t C fl then match ((F C).zip xs).lookup fl with | some v => .ok v h | none => .bad else .bad := rfl
theorem fldM_exc {t te : InsT} {F : Flds} {fl C : Str} : fldM t te F fl (.exc C xs) h = if hasF te C fl then match ((F C).zip xs).lookup fl with | some v => .ok v h | none => .bad else .bad := rfl
theorem doneM_new {F : Flds} {C D : Str} {fs : List (Str × MV)} : doneM F C h.length (h ++ [.ins D fs]) = if D = C ∧ F C ≠ [] ∧ fs.map (·.1) = F C then .ok (.ins C (fs.map (·.2))) (h ++ [.dead]) else .ok (.ref h.length) (h ++ [.ins D fs]) := by
  unfold doneM
  simp only [get_new, set_new]
/-- a new instance: what __init__ does, and the end -/
@[simp] theorem makeM_ev {F : Flds} {C : Str} {o : LF} : makeM F C o xs h = match o (.ref h.length :: xs) (h ++ [.ins C []]) with
  | .ok .non h' => doneM F C h.length h'
  | .ok _ _ => .bad
  | .exc D vs h' => .exc D vs h'
  | .bad => .bad := rfl
theorem rbs_all {n : Nat} : ∀ {xs : List MV}, (∀ x ∈ xs, rb n x = true) → rbs n xs = true
  | [], _ => rfl
  | x :: xs, e => by
    unfold rbs
    rw [e x List.mem_cons_self, rbs_all fun y m => e y (List.mem_cons_of_mem _ m)]
    rfl
theorem rb_tup {n : Nat} (e : ∀ x ∈ xs, rb n x = true) : rb n (.tup xs) = true := rbs_all e
theorem rb_lst {n : Nat} (e : ∀ x ∈ xs, rb n x = true) : rb n (.lst xs) = true := rbs_all e
theorem rb_isZ {n : Nat} (e : isZ v = true) : rb n v = true := by
  rw [isZ_iv e]
  rfl
@[simp] theorem gc_one {v : MV} {x : MO} : gcR (h.length + 1) (.ok v (h ++ [x])) = .ok v (h ++ [x]) := if_pos (by simp)
@[simp] theorem gcx_one {C : Str} {vs : List MV} {x : MO} : gcR (h.length + 1) (.exc C vs (h ++ [x])) = .exc C vs (h ++ [x]) := if_pos (by simp)
theorem gc_len {v : MV} {n : Nat} (e : h.length ≤ n) : gcR n (.ok v h) = .ok v h := if_pos e
end
end M

set_option Elab.async false
set_option linter.all false
set_option maxRecDepth 100000
set_option maxHeartbeats 4000000
/-! draws in comprehensions; deep lists of which nothing else points in -/
namespace M
open PySem PySem.Spec PyProof.Rows L2 DL
section
variable {α β : Type} {μ : ME} {h : MH} {xs : List MV} {t : TF} {e : EF} {i : Nat} {mi : MI} {cells : List Int} {a l : Int} {th : MH}
/-- over data -/
theorem lc_mapD {as : List α} {g f : α → MV} (hm : ItsH h mi (as.map g)) (hn : as.length < 1000000) (he : ∀ x ∈ as, e (μ.set i (some (g x))) h = .ok (f x) h) : lcLoop mi (CT.one i) yesT e FUEL 0 μ h [] = .ok (as.map f) h := by
  have go : ∀ (d k fu : Nat) (acc : List MV), k + d = as.length → d < fu → acc = (as.take k).map f → lcLoop mi (CT.one i) yesT e fu k μ h acc = .ok (as.map f) h := by
    intro d
    induction d with
    | zero =>
      intro k fu acc hk hf ha
      obtain ⟨fu, rfl⟩ : ∃ g, fu = g + 1 := ⟨fu - 1, by omega⟩
      unfold lcLoop
      rw [hm k, List.getElem?_eq_none_iff.mpr (by rw [List.length_map]; omega), ha]
      have : k = as.length := by omega
      subst this
      rw [List.take_length]
    | succ d ih =>
      intro k fu acc hk hf ha
      obtain ⟨fu, rfl⟩ : ∃ g, fu = g + 1 := ⟨fu - 1, by omega⟩
      have hx : as[k]? = some as[k] := List.getElem?_eq_getElem (by omega)
      have la : acc.length ≤ k := by rw [ha, List.length_map, List.length_take]; omega
      unfold lcLoop
      rw [hm k, List.getElem?_map, hx]
      show ((e (μ.set i (some (g as[k]))) h).noexc.bind fun y h2 => if acc.length < LIM then lcLoop mi (CT.one i) yesT e fu (k + 1) μ h2 (acc ++ [y]) else .bad) = _
      rw [he _ (List.mem_of_getElem? hx)]
      show (if acc.length < LIM then lcLoop mi (CT.one i) yesT e fu (k + 1) μ h (acc ++ [f as[k]]) else .bad) = _
      rw [if_pos (show acc.length < LIM by have : LIM = 1000000 := rfl; omega)]
      refine ih (k + 1) fu _ (by omega) (by omega) ?_
      rw [List.take_succ, hx, List.map_append, ha]
      rfl
  exact go as.length 0 FUEL [] (by omega) (by have : FUEL = 1000000 := rfl; omega) rfl
theorem mem_data {f : α → MV} {ys : List MV} {G : α → Prop} : (∀ y ∈ ys, ∃ z, y = f z ∧ G z) → ∃ zs : List α, ys = zs.map f ∧ ∀ z ∈ zs, G z := by
  induction ys with
  | nil => exact fun _ => ⟨[], rfl, fun _ m => by cases m⟩
  | cons y ys ih =>
    intro H
    obtain ⟨z, e1, e2⟩ := H y List.mem_cons_self
    obtain ⟨zs, e3, e4⟩ := ih fun y m => H y (List.mem_cons_of_mem _ m)
    refine ⟨z :: zs, by rw [e1, e3]; rfl, fun x m => ?_⟩
    rcases List.mem_cons.mp m with rfl | m
    · exact e2
    · exact e4 x m
/-- a comprehension that draws: c draws at most for each item -/
theorem lc_pen (hm : Its mi xs) (hn : xs.length < 1000000) (f : α → MV) (G : α → Prop) (c A : Int) (hc : 0 ≤ c) (hA : a + c * xs.length ≤ A)
    (he : ∀ x ∈ xs, ∀ a1 l1, a ≤ a1 → a1 + c ≤ A → ∃ z a2 l2, e (μ.set i (some x)) (pnO cells a1 l1 :: th) = .ok (f z) (pnO cells a2 l2 :: th) ∧ G z ∧ a1 ≤ a2 ∧ a2 ≤ a1 + c) :
    ∃ (zs : List α) (a' l' : Int), lcLoop mi (CT.one i) yesT e FUEL 0 μ (pnO cells a l :: th) [] = .ok (zs.map f) (pnO cells a' l' :: th) ∧ zs.length = xs.length ∧ (∀ z ∈ zs, G z) ∧ a ≤ a' ∧ a' ≤ a + c * xs.length := by
  obtain ⟨acc, h', e1, a', l', rfl, e2, e3, e4, e5⟩ := lc_wp (c := CT.one i) (t := yesT) (e := e) (μ := μ) (h := pnO cells a l :: th) hm hn (fun k h' acc => ∃ a' l', h' = pnO cells a' l' :: th ∧ acc.length = k ∧ (∀ y ∈ acc, ∃ z, y = f z ∧ G z) ∧ a ≤ a' ∧ a' ≤ a + c * k)
    (fun k x h acc hx ha ⟨a1, l1, q1, q2, q3, q4, q5⟩ => by
      subst q1
      have hk : k + 1 ≤ xs.length := (List.getElem?_eq_some_iff.mp hx).1
      have b1 : c * ((k : Int) + 1) ≤ c * xs.length := Int.mul_le_mul_of_nonneg_left (by omega) hc
      have b2 : c * ((k : Int) + 1) = c * k + c := by rw [Int.mul_add, Int.mul_one]
      obtain ⟨z, a2, l2, r1, r2, r3, r4⟩ := he x (List.mem_of_getElem? hx) a1 l1 q4 (by omega)
      refine ⟨_, rfl, true, _, rfl, fun _ => ⟨_, _, r1, a2, l2, rfl, ?_, fun y m => ?_, by omega, ?_⟩, fun z => by cases z⟩
      · rw [List.length_append, q2]
        rfl
      · rcases List.mem_append.mp m with m | m
        · exact q3 y m
        · rw [List.mem_singleton] at m
          exact ⟨z, m, r2⟩
      · rw [Int.natCast_add]
        simp only [Int.cast_ofNat_Int]
        omega)
    ⟨a, l, rfl, rfl, fun _ m => (nomatch m), Int.le_refl _, by simp⟩
  obtain ⟨zs, rfl, z2⟩ := mem_data e3
  exact ⟨zs, a', l', e1, by rw [← e2, List.length_map], z2, e4, e5⟩
end
/-! ### deep lists -/
def nref : MV → Bool
  | .ref _ => false
  | _ => true
/-- .. and, where c is so, no list that may not be written -/
def nval (c : Bool) : MV → Bool
  | .ref _ => false
  | .lst _ => !c
  | _ => true
theorem nval_f {v : MV} : nval false v = nref v := by cases v <;> rfl
theorem nval_w {c : Bool} {v : MV} (e : nval c v = true) : nval false v = true := by
  cases v <;> first | rfl | cases e
mutual
/-- v, all the way in, is t; its numbers lie from lo on and below hi, each of them stands in one place -/
inductive Own (c : Bool) (h : MH) : Nat → Nat → Nat → MV → MV → Prop
  | val {n lo hi : Nat} {v : MV} : nval c v = true → lo ≤ hi → Own c h (n + 1) lo hi v v
  | ref {n lo hi j : Nat} {xs ts : List MV} : h[j]? = some (.lst xs) → Owns c h n lo j xs ts → j < hi → Own c h (n + 1) lo hi (.ref j) (.lst ts)
inductive Owns (c : Bool) (h : MH) : Nat → Nat → Nat → List MV → List MV → Prop
  | nil {n lo hi : Nat} : lo ≤ hi → Owns c h n lo hi [] []
  | cons {n lo mid hi : Nat} {x t : MV} {xs ts : List MV} : Own c h n lo mid x t → Owns c h n mid hi xs ts → Owns c h n lo hi (x :: xs) (t :: ts)
end
mutual
theorem Own.le {c : Bool} {h : MH} {n lo hi : Nat} {v t : MV} (o : Own c h n lo hi v t) : lo ≤ hi := by
  match o with
  | .val _ h => exact h
  | .ref _ os hj =>
    have := Owns.le os
    omega
theorem Owns.le {c : Bool} {h : MH} {n lo hi : Nat} {v t : List MV} (o : Owns c h n lo hi v t) : lo ≤ hi := by
  match o with
  | .nil h => exact h
  | .cons a b =>
    have := Own.le a
    have := Owns.le b
    omega
end
mutual
theorem Own.fr {c : Bool} {h h' : MH} {n lo hi : Nat} {v t : MV} (o : Own c h n lo hi v t) (e : ∀ i, lo ≤ i → i < hi → h'[i]? = h[i]?) : Own c h' n lo hi v t := by
  match o with
  | .val a b => exact .val a b
  | .ref (j := j) a os hj =>
    have := Owns.le os
    exact .ref (by rw [e j (by omega) hj]; exact a) (Owns.fr os fun i p q => e i p (by omega)) hj
theorem Owns.fr {c : Bool} {h h' : MH} {n lo hi : Nat} {v t : List MV} (o : Owns c h n lo hi v t) (e : ∀ i, lo ≤ i → i < hi → h'[i]? = h[i]?) : Owns c h' n lo hi v t := by
  match o with
  | .nil a => exact .nil a
  | .cons a b =>
    have := Own.le a
    have := Owns.le b
    exact .cons (Own.fr a fun i p q => e i p (by omega)) (Owns.fr b fun i p q => e i (by omega) q)
end
mutual
theorem Own.weak {c : Bool} {h : MH} {n lo hi : Nat} {v t : MV} (o : Own c h n lo hi v t) : Own false h n lo hi v t := by
  match o with
  | .val a b => exact .val (nval_w a) b
  | .ref a os hj => exact .ref a (Owns.weak os) hj
theorem Owns.weak {c : Bool} {h : MH} {n lo hi : Nat} {v t : List MV} (o : Owns c h n lo hi v t) : Owns false h n lo hi v t := by
  match o with
  | .nil a => exact .nil a
  | .cons a b => exact .cons (Own.weak a) (Owns.weak b)
end
mutual
theorem Own.deep {c : Bool} {h : MH} {n lo hi : Nat} {v t : MV} (o : Own c h n lo hi v t) : Own c h (n + 1) lo hi v t := by
  match o with
  | .val a b => exact .val a b
  | .ref a os hj => exact .ref a (Owns.deep os) hj
theorem Owns.deep {c : Bool} {h : MH} {n lo hi : Nat} {v t : List MV} (o : Owns c h n lo hi v t) : Owns c h (n + 1) lo hi v t := by
  match o with
  | .nil a => exact .nil a
  | .cons a b => exact .cons (Own.deep a) (Owns.deep b)
end
mutual
theorem Own.up {c : Bool} {h : MH} {n lo hi lo' hi' : Nat} {v t : MV} (o : Own c h n lo hi v t) (a : lo' ≤ lo) (b : hi ≤ hi') : Own c h n lo' hi' v t := by
  match o with
  | .val c d => exact .val c (by omega)
  | .ref c d e => exact .ref c (Owns.up d a) (by omega)
theorem Owns.up {c : Bool} {h : MH} {n lo hi lo' : Nat} {v t : List MV} (o : Owns c h n lo hi v t) (a : lo' ≤ lo) : Owns c h n lo' hi v t := by
  match o with
  | .nil c => exact .nil (by omega)
  | .cons c d => exact .cons (Own.up c a (Nat.le_refl _)) d
end
theorem Owns.len {c : Bool} {h : MH} {n lo hi : Nat} {v t : List MV} (o : Owns c h n lo hi v t) : v.length = t.length := by
  induction v generalizing lo t with
  | nil =>
    cases o
    rfl
  | cons x xs ih =>
    cases o with
    | cons p q => rw [List.length_cons, List.length_cons, ih q]
/-- one item -/
theorem Owns.at {c : Bool} {h : MH} {n lo hi k : Nat} {v ts : List MV} {t : MV} (o : Owns c h n lo hi v ts) (hk : ts[k]? = some t) :
    ∃ x l m, v[k]? = some x ∧ lo ≤ l ∧ l ≤ m ∧ m ≤ hi ∧ Own c h n l m x t ∧ ∀ h' x' t', (∀ i, lo ≤ i → i < hi → (i < l ∨ m ≤ i) → h'[i]? = h[i]?) → Own false h' n l m x' t' → Owns false h' n lo hi (v.set k x') (ts.set k t') := by
  induction v generalizing lo ts k with
  | nil =>
    cases o
    cases hk
  | cons y ys ih =>
    cases o with
    | cons p q =>
      rename_i mid u us
      have lp := p.le
      have lq := q.le
      cases k with
      | zero =>
        cases hk
        refine ⟨y, lo, mid, rfl, Nat.le_refl _, lp, lq, p, fun h' x' t' e o' => ?_⟩
        exact .cons o' (q.weak.fr fun i a b => e i (by omega) b (.inr a))
      | succ k =>
        obtain ⟨x, l, m, e1, e2, e3, e4, e5, e6⟩ := ih q hk
        refine ⟨x, l, m, e1, by omega, e3, e4, e5, fun h' x' t' e o' => ?_⟩
        exact .cons (p.weak.fr fun i a b => e i a (by omega) (.inl (by omega))) (e6 h' x' t' (fun i a b c => e i (by omega) b c) o')
theorem Own.at {c : Bool} {h : MH} {n lo hi j k : Nat} {ts : List MV} {t : MV} (o : Own c h (n + 1) lo hi (.ref j) (.lst ts)) (hk : ts[k]? = some t) :
    ∃ xs x l m, h[j]? = some (.lst xs) ∧ xs.length = ts.length ∧ xs[k]? = some x ∧ lo ≤ l ∧ l ≤ m ∧ m ≤ j ∧ j < hi ∧ Own c h n l m x t ∧ ∀ h' t', (∀ i, lo ≤ i → i < hi → (i < l ∨ m ≤ i) → h'[i]? = h[i]?) → Own false h' n l m x t' → Own false h' (n + 1) lo hi (.ref j) (.lst (ts.set k t')) := by
  cases o with
  | ref a b c =>
    rename_i xs
    obtain ⟨x, l, m, e1, e2, e3, e4, e5, e6⟩ := b.at hk
    refine ⟨xs, x, l, m, a, b.len, e1, e2, e3, e4, c, e5, fun h' t' e o' => ?_⟩
    have lb := b.le
    have z := e6 h' x t' (fun i p q r => e i p (by omega) r) o'
    rw [show xs.set k x = xs by
      apply List.ext_getElem?
      intro i
      by_cases hi : k = i
      · subst hi
        rw [List.getElem?_set_self (List.getElem?_eq_some_iff.mp e1).1, e1]
      · rw [List.getElem?_set_ne hi]] at z
    exact .ref (by rw [e j (by omega) c (.inr e4)]; exact a) z c
/-- an item is written -/
theorem Own.put {c : Bool} {h : MH} {n lo hi j k : Nat} {ts : List MV} {v : MV} (o : Own c h (n + 2) lo hi (.ref j) (.lst ts)) (hk : k < ts.length) (hv : nref v = true) :
    ∃ h', setM (.ref j) (.int k) v h = some h' ∧ h'.length = h.length ∧ (∀ i : Nat, i < lo ∨ hi ≤ i → h'[i]? = h[i]?) ∧ Own false h' (n + 2) lo hi (.ref j) (.lst (ts.set k v)) ∧ ∃ xs, h' = h.set j (.lst xs) ∧ ∃ ys, h[j]? = some (.lst ys) ∧ xs = ys.set k v := by
  cases o with
  | ref a b c =>
    rename_i xs
    have lb := b.le
    have hj := (List.getElem?_eq_some_iff.mp a).1
    obtain ⟨x, l, m, e1, e2, e3, e4, e5, e6⟩ := b.at (List.getElem?_eq_getElem hk)
    refine ⟨h.set j (.lst (xs.set k v)), ?_, List.length_set, fun i q => ?_, ?_, _, rfl, xs, a, rfl⟩
    · unfold setM
      simp only [a]
      have : ixN xs.length (k : Int) = some k := by
        unfold ixN
        have := b.len
        simp
        omega
      rw [this]
    · rw [List.getElem?_set_ne (by omega)]
    · refine .ref (by rw [List.getElem?_set_self hj]) (e6 _ v v (fun i p q r => by rw [List.getElem?_set_ne (by omega)]) (.val (nval_f.trans hv) e3)) c
mutual
/-- locked all the way in -/
theorem Own.frz {c : Bool} {h : MH} {n lo hi : Nat} {v t : MV} (o : Own c h n lo hi v t) : ∃ h', frzD n h v = some (t, h') ∧ h'.length = h.length ∧ (∀ i : Nat, i < lo ∨ hi ≤ i → h'[i]? = h[i]?) ∧ ∀ (i : Nat) (o : MO), h'[i]? = some o → o = MO.dead ∨ h[i]? = some o := by
  match o with
  | .val (n := n) a b =>
    refine ⟨h, ?_, rfl, fun _ _ => rfl, fun _ _ e => .inr e⟩
    cases v <;> first | rfl | cases a
  | .ref (n := n) (j := j) (xs := xs) (ts := ts) a b c =>
    obtain ⟨h1, e1, e2, e3, e4⟩ := Owns.frz b
    have lb := Owns.le b
    have hj : h1[j]? = some (.lst xs) := by rw [e3 j (.inr (Nat.le_refl _))]; exact a
    have hl := (List.getElem?_eq_some_iff.mp hj).1
    refine ⟨h1.set j .dead, ?_, by rw [List.length_set, e2], fun i q => ?_, fun i o e => ?_⟩
    · unfold frzD
      simp only [a, e1, hj]
    · rw [List.getElem?_set_ne (by omega)]
      exact e3 i (by omega)
    · by_cases hi : j = i
      · subst hi
        rw [List.getElem?_set_self hl] at e
        cases e
        exact .inl rfl
      · rw [List.getElem?_set_ne hi] at e
        exact e4 i o e
theorem Owns.frz {c : Bool} {h : MH} {n lo hi : Nat} {v t : List MV} (o : Owns c h n lo hi v t) : ∃ h', frzDs (frzD n) h v = some (t, h') ∧ h'.length = h.length ∧ (∀ i : Nat, i < lo ∨ hi ≤ i → h'[i]? = h[i]?) ∧ ∀ (i : Nat) (o : MO), h'[i]? = some o → o = MO.dead ∨ h[i]? = some o := by
  match o with
  | .nil a => exact ⟨h, rfl, rfl, fun _ _ => rfl, fun _ _ e => .inr e⟩
  | .cons (mid := mid) a b =>
    obtain ⟨h1, e1, e2, e3, e4⟩ := Own.frz a
    have la := Own.le a
    have lb := Owns.le b
    obtain ⟨h2, f1, f2, f3, f4⟩ := Owns.frz (Owns.fr b fun i p q => e3 i (.inr p))
    refine ⟨h2, ?_, by rw [f2, e2], fun i q => ?_, fun i o e => ?_⟩
    · unfold frzDs
      simp only [e1, f1]
    · rw [f3 i (by omega), e3 i (by omega)]
    · rcases f4 i o e with z | z
      · exact .inl z
      · exact e4 i o z
end
theorem wf_iff {h : MH} : wf h = true ↔ ∀ (i : Nat) (o : MO), h[i]? = some o → rbO h.length o = true := by
  unfold wf
  rw [List.all_eq_true]
  constructor
  · exact fun e i o q => e o (List.mem_of_getElem? q)
  · intro e o m
    obtain ⟨i, hi⟩ := List.mem_iff_getElem?.mp m
    exact e i o hi
theorem wf_frz {h h' : MH} (w : wf h = true) (e : h'.length = h.length) (f : ∀ (i : Nat) (o : MO), h'[i]? = some o → o = MO.dead ∨ h[i]? = some o) : wf h' = true := by
  rw [wf_iff] at w ⊢
  intro i o q
  rw [e]
  rcases f i o q with rfl | z
  · rfl
  · exact w i o z
theorem log_small {n : Nat} (h1 : 1 ≤ n) (h : n ≤ 1000000000000000000) : n.log2 < 9000 :=
  Nat.lt_of_lt_of_le ((Nat.log2_lt (by omega)).mpr (Nat.lt_of_le_of_lt h (by decide : 1000000000000000000 < 2 ^ 60))) (by decide)
mutual
theorem rb_up {n m : Nat} (e : n ≤ m) : ∀ v : MV, rb n v = true → rb m v = true
  | .ref i, h => by
    unfold rb at h ⊢
    simp at h ⊢
    omega
  | .tup xs, h => rbs_up e xs h
  | .lst xs, h => rbs_up e xs h
  | .dic _ xs, h => rbs_up e xs h
  | .dicT _ xs, h => rbs_up e xs h
  | .ins _ xs, h => rbs_up e xs h
  | .exc _ xs, h => rbs_up e xs h
  | .scr xs, h => rbs_up e xs h
  | .non, _ => rfl
  | .bl _, _ => rfl
  | .int _, _ => rfl
  | .str _, _ => rfl
  | .raw _, _ => rfl
theorem rbs_up {n m : Nat} (e : n ≤ m) : ∀ v : List MV, rbs n v = true → rbs m v = true
  | [], _ => rfl
  | x :: xs, h => by
    unfold rbs at h ⊢
    rw [Bool.and_eq_true] at h ⊢
    exact ⟨rb_up e x h.1, rbs_up e xs h.2⟩
end
theorem rbO_up {n m : Nat} (e : n ≤ m) {o : MO} (h : rbO n o = true) : rbO m o = true := by
  cases o with
  | dead => rfl
  | _ => exact rbs_up e _ h
theorem wf_add {h : MH} {o : MO} (w : wf h = true) (r : rbO (h.length + 1) o = true) : wf (h ++ [o]) = true := by
  unfold wf at w ⊢
  rw [List.all_eq_true] at w ⊢
  intro x m
  rw [List.length_append]
  rcases List.mem_append.mp m with m | m
  · exact rbO_up (by omega) (w x m)
  · rw [List.mem_singleton] at m
    subst m
    exact r
theorem wf_set {h : MH} {o : MO} {j : Nat} (w : wf h = true) (r : rbO h.length o = true) : wf (h.set j o) = true := by
  unfold wf at w ⊢
  rw [List.all_eq_true] at w ⊢
  intro x m
  rw [List.length_set]
  rcases List.mem_or_eq_of_mem_set m with m | m
  · exact w x m
  · subst m
    exact r
theorem rbs_ints {n : Nat} {xs : List Int} : rbs n (xs.map MV.int) = true := rbs_all fun x m => by
  obtain ⟨y, _, rfl⟩ := List.mem_map.mp m
  rfl
theorem rbO_pn {n : Nat} {cells : List Int} {a l : Int} : rbO n (pnO cells a l) = true := by
  unfold pnO rbO
  refine rbs_all fun x m => ?_
  simp at m
  rcases m with rfl | rfl | rfl
  · exact rbs_ints
  · rfl
  · rfl
/-- the pen's numbers are nothing to the heap's form -/
theorem wf_pn {cells : List Int} {a l a' l' : Int} {t : MH} (w : wf (pnO cells a l :: t) = true) : wf (pnO cells a' l' :: t) = true := wf_set (j := 0) w rbO_pn
theorem wf_tail {cells : List Int} {a l : Int} {t : MH} : wf (pnO cells a l :: t) = t.all (rbO (t.length + 1)) := by
  unfold wf
  rw [List.all_cons, rbO_pn]
  rfl
theorem Owns.snoc {c : Bool} {h : MH} {n lo mid hi : Nat} {xs ts : List MV} {x t : MV} (a : Owns c h n lo mid xs ts) (b : Own c h n mid hi x t) : Owns c h n lo hi (xs ++ [x]) (ts ++ [t]) := by
  induction xs generalizing lo ts with
  | nil =>
    cases a with
    | nil q => exact .cons (b.up q (Nat.le_refl _)) (.nil (Nat.le_refl _))
  | cons y ys ih =>
    cases a with
    | cons p q => exact .cons p (ih q)
theorem app_fr {h s : MH} {i : Nat} (hi : i < h.length) : (h ++ s)[i]? = h[i]? := List.getElem?_append_left hi
/-- a new list of what was just made -/
theorem own_new {c : Bool} {h : MH} {n lo : Nat} {xs ts : List MV} (o : Owns c h n lo h.length xs ts) : Own c (h ++ [.lst xs]) (n + 1) lo (h.length + 1) (.ref h.length) (.lst ts) :=
  .ref get_new (o.fr fun i _ b => app_fr b) (Nat.lt_succ_self _)
/-- a comprehension that makes new lists -/
theorem lc_own {c : Bool} {α : Type} {mi : MI} {as : List α} {g T : α → MV} {μ : ME} {h : MH} {i n : Nat} {e : EF} (hm : Its mi (as.map g)) (hn : as.length < 1000000) (w : wf h = true)
    (he : ∀ x ∈ as, ∀ h', h.length ≤ h'.length → wf h' = true → ∃ v s, e (μ.set i (some (g x))) h' = .ok v (h' ++ s) ∧ Own c (h' ++ s) n h'.length (h' ++ s).length v (T x) ∧ wf (h' ++ s) = true ∧ rb (h' ++ s).length v = true) :
    ∃ vs s, lcLoop mi (CT.one i) yesT e FUEL 0 μ h [] = .ok vs (h ++ s) ∧ Owns c (h ++ s) n h.length (h ++ s).length vs (as.map T) ∧ wf (h ++ s) = true ∧ rbs (h ++ s).length vs = true := by
  obtain ⟨acc, h', e1, s, rfl, e2, e3, e4⟩ := lc_wp (c := CT.one i) (t := yesT) (e := e) (μ := μ) (h := h) hm (by rw [List.length_map]; exact hn) (fun k h' acc => ∃ s, h' = h ++ s ∧ Owns c h' n h.length h'.length acc ((as.take k).map T) ∧ wf h' = true ∧ rbs h'.length acc = true)
    (fun k x h1 acc hx ha ⟨s, q1, q2, q3, q4⟩ => by
      subst q1
      rw [List.getElem?_map] at hx
      cases hk : as[k]? with
      | none =>
        rw [hk] at hx
        cases hx
      | some y =>
        rw [hk] at hx
        cases hx
        obtain ⟨v, s2, r1, r2, r3, r4⟩ := he y (List.mem_of_getElem? hk) (h ++ s) (by rw [List.length_append]; omega) q3
        refine ⟨_, rfl, true, _, rfl, fun _ => ⟨_, _, r1, s ++ s2, List.append_assoc .., ?_, r3, ?_⟩, fun z => by cases z⟩
        · rw [List.take_succ, hk, List.map_append]
          exact (q2.fr fun i _ b => app_fr b).snoc r2
        · refine rbs_all fun z m => ?_
          rcases List.mem_append.mp m with m | m
          · refine rb_up (n := (h ++ s).length) (by rw [List.length_append (as := h ++ s)]; omega) z ?_
            have : ∀ {xs : List MV}, rbs (h ++ s).length xs = true → z ∈ xs → rb (h ++ s).length z = true := by
              intro xs
              induction xs with
              | nil => exact fun _ m => nomatch m
              | cons y ys ih =>
                intro q m
                unfold rbs at q
                rw [Bool.and_eq_true] at q
                rcases List.mem_cons.mp m with rfl | m
                · exact q.1
                · exact ih q.2 m
            exact this q4 m
          · rw [List.mem_singleton] at m
            subst m
            exact r4)
    ⟨[], (List.append_nil _).symm, .nil (Nat.le_refl _), w, rfl⟩
  rw [List.length_map] at e2
  rw [List.take_length] at e2
  exact ⟨acc, s, e1, e2, e3, e4⟩
/-! ### plain values all the way in -/
mutual
def pt : MV → Bool
  | .non => true | .bl _ => true | .int _ => true | .str _ => true | .dic _ xs => xs.isEmpty
  | .tup xs => decide (xs.length < 1000000) && pts xs
  | .lst xs => decide (xs.length < 1000000) && pts xs
  | _ => false
def pts : List MV → Bool
  | [] => true
  | x :: xs => pt x && pts xs
end
theorem pts_iff : ∀ {xs : List MV}, pts xs = true ↔ ∀ x ∈ xs, pt x = true
  | [] => ⟨fun _ _ m => (nomatch m), fun _ => rfl⟩
  | x :: xs => by
    unfold pts
    rw [Bool.and_eq_true, pts_iff, List.forall_mem_cons]
theorem pt_pl {v : MV} (h : MH) (p : pt v = true) : pl h v = true := by
  cases v <;> first | rfl | cases p
theorem pt_nref {v : MV} (p : pt v = true) : nref v = true := by
  cases v <;> first | rfl | cases p
theorem pt_sq {v : MV} {h : MH} {xs : List MV} (p : pt v = true) (e : sq h v = some xs) : xs.length < 1000000 ∧ ∀ x ∈ xs, pt x = true := by
  cases v with
  | tup ys =>
    cases e
    unfold pt at p
    rw [Bool.and_eq_true, pts_iff, decide_eq_true_iff] at p
    exact p
  | lst ys =>
    cases e
    unfold pt at p
    rw [Bool.and_eq_true, pts_iff, decide_eq_true_iff] at p
    exact p
  | ref i => cases p
  | _ => cases e
theorem pt_lst {xs : List MV} (a : xs.length < 1000000) (b : ∀ x ∈ xs, pt x = true) : pt (.lst xs) = true := by
  unfold pt
  rw [Bool.and_eq_true, pts_iff, decide_eq_true_iff]
  exact ⟨a, b⟩
theorem pt_tup {xs : List MV} (a : xs.length < 1000000) (b : ∀ x ∈ xs, pt x = true) : pt (.tup xs) = true := by
  unfold pt
  rw [Bool.and_eq_true, pts_iff, decide_eq_true_iff]
  exact ⟨a, b⟩
theorem pt_ints {xs : List Int} : ∀ x ∈ xs.map MV.int, pt x = true := fun x m => by
  obtain ⟨y, _, rfl⟩ := List.mem_map.mp m
  rfl
theorem pt_rb {n : Nat} : ∀ {v : MV}, pt v = true → rb n v = true := by
  have go : ∀ (k : Nat) (v : MV), sizeOf v < k → pt v = true → rb n v = true := by
    intro k
    induction k with
    | zero => exact fun v h => absurd h (Nat.not_lt_zero _)
    | succ k ih =>
      intro v hk p
      cases v with
      | tup xs =>
        refine rb_tup fun x m => ih x ?_ ((pt_sq (h := []) p rfl).2 x m)
        have := List.sizeOf_lt_of_mem m
        simp at hk
        omega
      | lst xs =>
        refine rb_lst fun x m => ih x ?_ ((pt_sq (h := []) p rfl).2 x m)
        have := List.sizeOf_lt_of_mem m
        simp at hk
        omega
      | dic ks xs =>
        cases xs with
        | nil => rfl
        | cons x xs => cases p
      | non => rfl
      | bl => rfl
      | int => rfl
      | str => rfl
      | _ => cases p
  exact fun {v} p => go _ v (Nat.lt_succ_self _) p
end M

set_option Elab.async false
set_option linter.all false
set_option maxRecDepth 100000
set_option maxHeartbeats 4000000
/-! slices, products, locks -/
namespace M
open PySem PySem.Spec PyProof.Rows L2 DL
section
variable {μ : ME} {h : MH} {f : EF} {a l u : OF} {xs ys : List MV} {md : Bool} {v : MV}
@[simp] theorem sl_ev : slE md f l u μ h = (f μ h).bind fun x h1 => (l μ h1).bind fun lo h2 => (u μ h2).bind fun hi h3 => slM md x lo hi h3 := of_eq_true (eq_self _)
@[simp] theorem noO_ev : noO μ h = .ok none h := of_eq_true (eq_self _)
def someK (x : MV) (h1 : MH) : R (Option Int) := match x with
  | .int i => .ok (some i) h1
  | _ => .bad
@[simp] theorem someO_ev : someO f μ h = (f μ h).bind someK := of_eq_true (eq_self _)
@[simp] theorem someK_i {i : Int} : someK (.int i) h = .ok (some i) h := of_eq_true (eq_self _)
@[simp] theorem sl_t {lo hi : Option Int} : slM md (.tup xs) lo hi h = .ok (.tup (cutM xs lo hi)) h := of_eq_true (eq_self _)
@[simp] theorem sl_l {lo hi : Option Int} : slM md (.lst xs) lo hi h = mkL md (cutM xs lo hi) h := of_eq_true (eq_self _)
@[simp] theorem sl_scr {lo hi : Option Int} : slM md (.scr xs) lo hi h = mkL md (cutM xs lo hi) h := of_eq_true (eq_self _)
theorem cut_to {k : Nat} : cutM xs none (some (k : Int)) = xs.take k := by
  unfold cutM
  rw [HT.sIx_nat, HT.sIx_none, List.drop_zero, Nat.sub_zero]
  apply List.take_eq_take_iff.mpr
  omega
theorem cut_from {k : Nat} : cutM xs (some (k : Int)) none = xs.drop k := by
  unfold cutM
  rw [HT.sIx_nat, HT.sIx_none]
  rcases Nat.lt_or_ge k xs.length with q | q
  · rw [Nat.min_eq_left (by omega), List.take_of_length_le (by rw [List.length_drop]; omega)]
  · rw [Nat.min_eq_right q, List.drop_eq_nil_of_le (Nat.le_refl _), List.drop_eq_nil_of_le q, List.take_nil]
@[simp] theorem cut_to1 : cutM xs none (some 1) = xs.take 1 := cut_to (k := 1)
@[simp] theorem cut_from1 : cutM xs (some 1) none = xs.drop 1 := cut_from (k := 1)
@[simp] theorem dnew_f : dnewE false μ h = .ok (.dic [] []) h := of_eq_true (eq_self _)
theorem mul_lz {k : Int} (h0 : 0 ≤ k) (h1 : k ≤ 1000) (hx : xs.length ≤ 1000) : mulM md (.lst xs) (.int k) h = mkL md (List.replicate k.toNat xs).flatten h := by
  rw [mul_li, decide_eq_true (by omega), decide_eq_true (by omega), decide_eq_true (by
    have := Nat.mul_le_mul hx (show k.toNat ≤ 1000 by omega)
    have e : LIM = 1000000 := rfl
    omega)]
  rfl
theorem mul_tz {k : Int} (h0 : 0 ≤ k) (h1 : k ≤ 1000) (hx : xs.length ≤ 1000) : mulM md (.tup xs) (.int k) h = .ok (.tup (List.replicate k.toNat xs).flatten) h := by
  rw [mul_ti, decide_eq_true (by omega), decide_eq_true (by omega), decide_eq_true hx]
  rfl
theorem mul_sz {z : Str} {k : Int} (h0 : 0 ≤ k) (h1 : k ≤ 1000) (hx : z.length ≤ 1000) : mulM md (.str z) (.int k) h = .ok (.str (strRep z k)) h := by
  have e : mulM md (.str z) (.int k) h = if decide (0 ≤ k) && decide (k ≤ 1000) && decide (z.length ≤ 1000) then .ok (.str (strRep z k)) h else .bad := of_eq_true (eq_self _)
  rw [e, decide_eq_true h0, decide_eq_true h1, decide_eq_true hx]
  rfl
theorem rep_one {n : Nat} {x : MV} : (List.replicate n [x]).flatten = List.replicate n x := by
  induction n with
  | zero => rfl
  | succ n ih => rw [List.replicate_succ, List.flatten_cons, ih, List.replicate_succ]; rfl
/-- a heap that goes on as another does -/
theorem same_pre {b s H : MH} {n : Nat} (hn : b.length = n) (e : ∀ i : Nat, i < n → H[i]? = (b ++ s)[i]?) (hl : n ≤ H.length) : ∃ s', H = b ++ s' := by
  refine ⟨H.drop n, ?_⟩
  have : H.take n = b := by
    apply List.ext_getElem?
    intro i
    by_cases hi : i < n
    · rw [List.getElem?_take, if_pos hi, e i hi, List.getElem?_append_left (by omega)]
    · rw [List.getElem?_eq_none_iff.mpr (by rw [List.length_take]; omega), List.getElem?_eq_none_iff.mpr (by omega)]
  rw [← this, List.take_append_drop]
/-- the slot is locked, all the way in -/
theorem frzDS_ev {c : Bool} {b s : MH} {i j lo hi : Nat} {T : MV} (e : μ[i]? = some (some (.ref j))) (o : Own c (b ++ s) 9 lo hi (.ref j) T) (hb : b.length ≤ lo) (hl : b.length ≤ (b ++ s).length := by simp) :
    ∃ s', (∀ g : SF, frzDS i g μ (b ++ s) = g (μ.set i (some T)) (b ++ s')) ∧ s'.length = s.length ∧ (∀ k : Nat, k < lo ∨ hi ≤ k → (b ++ s')[k]? = (b ++ s)[k]?) ∧ ∀ (k : Nat) (o : MO), (b ++ s')[k]? = some o → o = MO.dead ∨ (b ++ s)[k]? = some o := by
  obtain ⟨H, e1, e2, e3, e4⟩ := o.frz
  obtain ⟨s', rfl⟩ := same_pre (s := s) rfl (fun k hk => e3 k (.inl (by omega))) (by rw [e2]; exact hl)
  refine ⟨s', fun g => ?_, by simpa using e2, e3, e4⟩
  unfold frzDS
  simp only [e, e1]
/-- the items of the list in the slot are locked -/
theorem frzCS_ev {c : Bool} {b s : MH} {i j lo hi : Nat} {ts : List MV} (e : μ[i]? = some (some (.ref j))) (o : Own c (b ++ s) 10 lo hi (.ref j) (.lst ts)) (hb : b.length ≤ lo) (hn : ∀ t ∈ ts, nref t = true) :
    ∃ s', (∀ g : SF, frzCS i g μ (b ++ s) = g μ (b ++ s')) ∧ s'.length = s.length ∧ (∀ n, Own false (b ++ s') (n + 2) lo hi (.ref j) (.lst ts)) ∧ (b ++ s')[j]? = some (.lst ts) ∧ j < hi ∧ lo ≤ j := by
  cases o with
  | ref p q r =>
    rename_i xs
    obtain ⟨H, e1, e2, e3, e4⟩ := q.frz
    have lq := q.le
    have hj : H[j]? = some (.lst xs) := by rw [e3 j (.inr (Nat.le_refl _))]; exact p
    have hjl := (List.getElem?_eq_some_iff.mp hj).1
    have hs : ∀ i : Nat, i < b.length → (H.set j (.lst ts))[i]? = (b ++ s)[i]? := fun i hi => by
      rw [List.getElem?_set_ne (by omega), e3 i (.inl (by omega))]
    obtain ⟨s', hs'⟩ := same_pre (s := s) rfl hs (by rw [List.length_set, e2, List.length_append]; omega)
    refine ⟨s', fun g => ?_, ?_, ?_, ?_, r, lq⟩
    · unfold frzCS
      simp only [e, p, e1, hj, hs']
    · have := congrArg List.length hs'
      rw [List.length_set, e2] at this
      simp at this
      omega
    · intro n
      have hg : (b ++ s')[j]? = some (.lst ts) := by rw [← hs', List.getElem?_set_self hjl]
      refine .ref hg ?_ r
      have : ∀ (ts : List MV), (∀ t ∈ ts, nref t = true) → Owns false (b ++ s') (n + 1) lo j ts ts := by
        intro ts
        induction ts with
        | nil => exact fun _ => .nil lq
        | cons t ts ih => exact fun hn => .cons (.val (nval_f.trans (hn t List.mem_cons_self)) (Nat.le_refl _)) (ih fun x m => hn x (List.mem_cons_of_mem _ m))
      exact this ts hn
    · rw [← hs', List.getElem?_set_self hjl]
/-- an item of a deep list is written -/
theorem own_put {c : Bool} {b s : MH} {n j lo hi k : Nat} {ts : List MV} (o : Own c (b ++ s) (n + 2) lo hi (.ref j) (.lst ts)) (hb : b.length ≤ lo) (hk : k < ts.length) (hv : nref v = true) :
    ∃ s', setM (.ref j) (.int k) v (b ++ s) = some (b ++ s') ∧ s'.length = s.length ∧ (∀ i : Nat, i < lo ∨ hi ≤ i → (b ++ s')[i]? = (b ++ s)[i]?) ∧ Own false (b ++ s') (n + 2) lo hi (.ref j) (.lst (ts.set k v)) := by
  obtain ⟨h', e1, e2, e3, e4, _⟩ := o.put hk hv
  obtain ⟨s', rfl⟩ := same_pre (s := s) rfl (fun i hi => e3 i (.inl (by omega))) (by rw [e2]; simp)
  exact ⟨s', e1, by simpa using e2, e3, e4⟩
/-- an item that is itself a list -/
theorem own_at {h : MH} {n j lo hi k : Nat} {ts us : List MV} (o : Own true h (n + 2) lo hi (.ref j) (.lst ts)) (hk : ts[k]? = some (.lst us)) :
    ∃ i l m, (ixM (.ref j) (.int k) h = .ok (.ref i) h ∧ ∃ xs, h[j]? = some (.lst xs) ∧ xs[k]? = some (.ref i)) ∧ lo ≤ l ∧ m ≤ hi ∧ Own true h (n + 1) l m (.ref i) (.lst us) ∧ ∀ h' t', (∀ i, lo ≤ i → i < hi → (i < l ∨ m ≤ i) → h'[i]? = h[i]?) → Own false h' (n + 1) l m (.ref i) t' → Own false h' (n + 2) lo hi (.ref j) (.lst (ts.set k t')) := by
  obtain ⟨xs, x, l, m, e1, e2, e3, e4, e5, e6, e7, e8, e9⟩ := o.at hk
  have hx : ∃ i, x = .ref i := by
    cases e8 with
    | val a b => cases a
    | ref a b d => exact ⟨_, rfl⟩
  obtain ⟨i, rfl⟩ := hx
  refine ⟨i, l, m, ⟨?_, xs, e1, e3⟩, e4, by omega, e8, e9⟩
  rw [ix_sq (sq_ref e1), at_nat, e3]
/-- .. that is none -/
theorem own_at0 {c : Bool} {h : MH} {n j lo hi k : Nat} {ts : List MV} {t : MV} (o : Own c h (n + 2) lo hi (.ref j) (.lst ts)) (hk : ts[k]? = some t) (ht : ∀ us, t ≠ .lst us) : ixM (.ref j) (.int k) h = .ok t h := by
  obtain ⟨xs, x, l, m, e1, e2, e3, e4, e5, e6, e7, e8, e9⟩ := o.at hk
  have hx : x = t := by
    cases e8 with
    | val a b => rfl
    | ref a b d => exact absurd rfl (ht _)
  subst hx
  rw [ix_sq (sq_ref e1), at_nat, e3]
theorem Own.lo {c : Bool} {h : MH} {n lo hi j : Nat} {t : MV} (o : Own c h n lo hi (.ref j) t) : lo ≤ j := by
  cases o with
  | val a b => cases c <;> cases a
  | ref a b d => exact b.le
/-- the pen is not what is read -/
theorem ix_pen {cells : List Int} {a l a' l' : Int} {t : MH} {k i : Nat} {xs : List MV} {v : MV} (hk : 1 ≤ k) (e : (pnO cells a l :: t)[k]? = some (.lst xs)) (ev : xs[i]? = some v) : ixM (.ref k) (.int i) (pnO cells a' l' :: t) = .ok v (pnO cells a' l' :: t) := by
  obtain ⟨m, rfl⟩ : ∃ m, k = m + 1 := ⟨k - 1, by omega⟩
  rw [ix_sq (sq_ref (xs := xs) (by exact e)), at_nat, ev]
end
end M

set_option Elab.async false
set_option linter.all false
set_option maxRecDepth 100000
set_option maxHeartbeats 4000000
/-! try, heard, a new list that is written -/
namespace M
open PySem PySem.Spec PyProof.Rows L2 DL
section
variable {μ : ME} {h : MH} {f : EF} {l : AF} {xs ys : List MV} {md : Bool} {v y : MV} {s : SF} {is es : List Str}
def aftK (is : List Nat) : RS → RS
  | .next μ1 h1 => .next (wipeM μ1 is) h1
  | r => r
@[simp] theorem aft_ev {is : List Nat} : afterS is s μ h = aftK is (s μ h) := by
  unfold afterS aftK
  cases s μ h <;> rfl
@[simp] theorem aftK_n {is : List Nat} : aftK is (.next μ h) = .next (wipeM μ is) h := of_eq_true (eq_self _)
@[simp] theorem aftK_r {is : List Nat} : aftK is (.ret v h) = .ret v h := of_eq_true (eq_self _)
@[simp] theorem aftK_x {is : List Nat} {C : Str} : aftK is (.exc C xs μ h) = .exc C xs μ h := of_eq_true (eq_self _)
def tryK (es : List Str) (i j : Nat) : RS → RS
  | .exc C vs μ1 h1 => if es.contains C && decide (i ≠ j) && decide (i < μ1.length) then .next ((μ1.set j (some (.exc C vs))).set i none) h1 else .bad
  | r => r
@[simp] theorem try_ev {i j : Nat} : tryS es i j s μ h = tryK es i j (s μ h) := by
  unfold tryS tryK
  cases s μ h <;> rfl
@[simp] theorem tryK_n {i j : Nat} : tryK es i j (.next μ h) = .next μ h := of_eq_true (eq_self _)
@[simp] theorem tryK_r {i j : Nat} : tryK es i j (.ret v h) = .ret v h := of_eq_true (eq_self _)
theorem tryK_x {i j : Nat} {C : Str} : tryK es i j (.exc C xs μ h) = if es.contains C && decide (i ≠ j) && decide (i < μ.length) then .next ((μ.set j (some (.exc C xs))).set i none) h else .bad := of_eq_true (eq_self _)
@[simp] theorem hrd_ev {o : (MH → R MV) → MH → R MV} : hrdE o f μ h = o (f μ) h := of_eq_true (eq_self _)
@[simp] theorem meth_ev {ty : MH → MV → Bool} {o : MV → LF} : methE ty o f l μ h = (f μ h).bind fun x h1 => if ty h1 x then (l μ h1).bind fun xs h2 => o x xs h2 else .bad := of_eq_true (eq_self _)
@[simp] theorem thk_ev {a : Addr} {θ : MH → R MV} : thkE 0 a θ (some (.raw a) :: μ) h = θ h := by
  unfold thkE
  simp
theorem isL_at {i : Nat} (e : h[i]? = some (.lst xs)) : isL h (.ref i) = true := by
  unfold isL lstM
  simp only [e]
  rfl
@[simp] theorem isL_new : isL (h ++ [.lst xs]) (.ref h.length) = true := isL_at get_new
theorem app_at {i : Nat} (e : h[i]? = some (.lst xs)) (hl : xs.length < 1000000) : appM (.ref i) [y] h = .ok .non (h.set i (.lst (xs ++ [y]))) := by
  unfold appM
  simp only [e]
  exact if_pos hl
theorem app_new (hl : xs.length < 1000000) : appM (.ref h.length) [y] (h ++ [.lst xs]) = .ok .non (h ++ [.lst (xs ++ [y])]) := by
  rw [app_at get_new hl, set_new]
@[simp] theorem app_0 : appM (.ref h.length) [y] (h ++ [.lst []]) = .ok .non (h ++ [.lst [y]]) := app_new (by simp)
@[simp] theorem len_new : lenM [.ref h.length] (h ++ [.lst xs]) = .ok (.int xs.length) (h ++ [.lst xs]) := len_sq (sq_ref get_new)
theorem ix_new {i : Int} : ixM (.ref h.length) (.int i) (h ++ [.lst xs]) = match L2.atI xs i with | some v => .ok v (h ++ [.lst xs]) | none => .bad := ix_sq (sq_ref get_new)
@[simp] theorem ix_new0 : ixM (.ref h.length) (.int 0) (h ++ [.lst (v :: xs)]) = .ok v (h ++ [.lst (v :: xs)]) := by
  rw [ix_new, at_0]
theorem toD_lst {n : Nat} : toD h (n + 1) (.lst xs) = (toDs (toD h n) xs).map .list := by
  unfold toD
  rfl
theorem toD_ref {n i : Nat} (e : h[i]? = some (.lst xs)) : toD h (n + 1) (.ref i) = (toDs (toD h n) xs).map .list := by
  unfold toD
  simp only [e]
/-- a list that may be written, against what it holds -/
theorem eq_ref {i : Nat} {ds : List PyData} (e : h[i]? = some (.lst xs)) (e2 : toDs (toD h 63) xs = some ds) (e3 : SeqAt.shaped (.list ds) = true) (e4 : PyData.eqv (.list ds) (.list ds) = true) : eqM (.ref i) (.lst xs) h = .ok (.bl true) h := by
  have q1 := toD_ref (n := 63) e
  have q2 := toD_lst (h := h) (n := 63) (xs := xs)
  rw [e2] at q1 q2
  unfold eqM
  rw [q1, q2]
  dsimp only [Option.map]
  rw [e3, e4]
  rfl
theorem insOf_ref {i : Nat} (e : h[i]? = some (.lst xs)) : insOf h (.ref i) = none := by
  unfold insOf
  simp only [e]
/-- two values of which none is an instance -/
theorem eqK_pl {ins : List Str} {t : EqT} {x y : MV} (px : pl h x = true) (py : pl h y = true) : eqK ins (eqA t) x y h = eqM x y h ∧ eqK ins (neA t) x y h = neM x y h := by
  have pi : ∀ {x : MV}, pl h x = true → insOf h x = none := by
    intro x p
    cases x with
    | ref i =>
      unfold pl at p
      dsimp only at p
      split at p
      · rename_i e
        exact insOf_ref e
      · cases p
    | ins => cases p
    | _ => rfl
  unfold eqK
  rw [insKn_pl py]
  constructor
  · show eqA t x y h = _
    unfold eqA
    rw [pi px, pi py]
  · show neA t x y h = _
    unfold neA
    rw [pi px, pi py]
end
end M

set_option Elab.async false
set_option linter.all false
set_option maxRecDepth 100000
set_option maxHeartbeats 4000000
/-! data that repr shows -/
namespace M
open PySem PySem.Spec PyProof.Rows L2 DL
/-- short data: depth k, weight w -/
structure Sho (k w : Nat) (d : PyData) : Prop where
  a : d.showable = true
  b : d.hasDict = false
  c : d.depth ≤ k
  e : d.intsShort 30 = true
  f : d.canLay0 = true
  g : d.weight ≤ w
  z : ∀ k, 200 ≤ k → k ∉ d.shown.cps.toList
theorem Sho.up {k w k' w' : Nat} {d : PyData} (s : Sho k w d) (h1 : k ≤ k') (h2 : w ≤ w') : Sho k' w' d := ⟨s.a, s.b, Nat.le_trans s.c h1, s.e, s.f, Nat.le_trans s.g h2, s.z⟩
theorem Sho.int {i : Int} (h1 : i.natAbs < 10 ^ 29) : Sho 0 100 (.int i) := by
  have hl : i.natAbs.log2 < 97 := by
    by_cases hz : i.natAbs = 0
    · rw [hz]
      decide
    · exact (Nat.log2_lt hz).mpr (Nat.lt_trans h1 (by decide))
  refine ⟨decide_eq_true (by omega), rfl, Nat.le_refl _, decide_eq_true ?_, rfl, ?_, fun k hk => shown_int_free' ⟨by omega, .inr (by omega)⟩ i⟩
  · have e := int_text_length_le10 (k := 29) (by decide) h1
    show (Str.ofString (toString i)).length ≤ 30
    rw [PySem.ofString_length]
    exact e
  · show (if i == 0 then 0 else i.natAbs.log2 + 1) ≤ 100
    split <;> omega
theorem Sho.int' {i : Int} (h0 : -1000000000000000 ≤ i) (h1 : i ≤ 1000000000000000) : Sho 0 100 (.int i) := Sho.int (Nat.lt_of_le_of_lt (show i.natAbs ≤ 1000000000000000 by omega) (by decide))
theorem Sho.none : Sho 0 0 .none := ⟨rfl, rfl, Nat.le_refl _, rfl, rfl, Nat.le_refl _, fun k hk m => by
  rw [PyData.shown_none] at m
  have e : (("None" : String) : Str).cps.toList = [78, 111, 110, 101] := by decide
  rw [e] at m
  simp only [List.mem_cons, List.not_mem_nil, or_false] at m
  omega⟩
theorem Sho.bool {x : Bool} : Sho 0 0 (.bool x) := ⟨rfl, rfl, Nat.le_refl _, rfl, rfl, Nat.le_refl _, fun k hk m => by
  rw [mem_shown_bool] at m
  split at m <;> simp only [List.mem_cons, List.not_mem_nil, or_false] at m <;> omega⟩
theorem sho_all {k w : Nat} : ∀ {xs : List PyData}, (∀ x ∈ xs, Sho k w x) → PyData.showableAll xs = true ∧ PyData.hasDictAll xs = false ∧ PyData.depthAll xs ≤ k ∧ PyData.intsShortAll 30 xs = true ∧ PyData.canLayAll0 xs = true ∧ PyData.weightAll xs ≤ xs.length * (w + 1)
  | [], _ => ⟨rfl, rfl, Nat.zero_le _, rfl, rfl, Nat.zero_le _⟩
  | x :: xs, h => by
    have hx := h x List.mem_cons_self
    obtain ⟨a, b, c, d, e, f⟩ := sho_all fun y m => h y (List.mem_cons_of_mem _ m)
    refine ⟨?_, ?_, ?_, ?_, ?_, ?_⟩
    · show (x.showable && PyData.showableAll xs) = true
      rw [hx.a, a]
      rfl
    · show (x.hasDict || PyData.hasDictAll xs) = false
      rw [hx.b, b]
      rfl
    · show max x.depth (PyData.depthAll xs) ≤ k
      have := hx.c
      omega
    · show (x.intsShort 30 && PyData.intsShortAll 30 xs) = true
      rw [hx.e, d]
      rfl
    · show (x.canLay0 && PyData.canLayAll0 xs) = true
      rw [hx.f, e]
      rfl
    · show x.weight + 1 + PyData.weightAll xs ≤ (xs.length + 1) * (w + 1)
      have := hx.g
      rw [Nat.add_mul, Nat.one_mul]
      omega
theorem sho_join {k : Nat} {xs : List PyData} (hk : 200 ≤ k) (h : ∀ x ∈ xs, k ∉ x.shown.cps.toList) : k ∉ (Str.join ", " (PyData.shownAll xs)).cps.toList := fun m => by
  rw [mem_join] at m
  rcases m with ⟨t, ht, hc⟩ | ⟨_, m⟩
  · exact shownAll_free h t ht hc
  · rw [signs_sep] at m
    simp only [List.mem_cons, List.not_mem_nil, or_false] at m
    omega
theorem Sho.list {k w n : Nat} {xs : List PyData} (h : ∀ x ∈ xs, Sho k w x) (hn : xs.length ≤ n) : Sho (k + 1) (n * (w + 1)) (.list xs) := by
  obtain ⟨a, b, c, d, e, f⟩ := sho_all h
  exact ⟨a, b, Nat.succ_le_succ c, d, e, Nat.le_trans f (Nat.mul_le_mul_right _ hn), fun k hk m => by
    rw [PyData.shown_list, mem_cps_append, mem_cps_append, signs_lbrack, signs_rbrack] at m
    rcases m with (m | m) | m
    · simp only [List.mem_cons, List.not_mem_nil, or_false] at m
      omega
    · exact sho_join hk (fun x mx => (h x mx).z k hk) m
    · simp only [List.mem_cons, List.not_mem_nil, or_false] at m
      omega⟩
theorem Sho.tuple {k w n : Nat} {xs : List PyData} (h : ∀ x ∈ xs, Sho k w x) (hn : xs.length ≤ n) : Sho (k + 1) (n * (w + 1)) (.tuple xs) := by
  obtain ⟨a, b, c, d, e, f⟩ := sho_all h
  exact ⟨a, b, Nat.succ_le_succ c, d, e, Nat.le_trans f (Nat.mul_le_mul_right _ hn), fun k hk m => by
    rw [PyData.shown_tuple, mem_cps_append, mem_cps_append, signs_lparen, signs_tuple_end] at m
    rcases m with (m | m) | m
    · simp only [List.mem_cons, List.not_mem_nil, or_false] at m
      omega
    · exact sho_join hk (fun x mx => (h x mx).z k hk) m
    · split at m <;> simp only [List.mem_cons, List.not_mem_nil, or_false] at m <;> omega⟩
theorem toDs_mapG {α : Type} {f : MV → Option PyData} {g : α → MV} {k : α → PyData} : ∀ {xs : List α}, (∀ x ∈ xs, f (g x) = some (k x)) → toDs f (xs.map g) = some (xs.map k)
  | [], _ => rfl
  | x :: xs, h => by
    show toDs f (g x :: xs.map g) = _
    unfold toDs
    rw [h x List.mem_cons_self, toDs_mapG fun y m => h y (List.mem_cons_of_mem _ m)]
    rfl
theorem toD_tupG {α : Type} {h : MH} {n : Nat} {g : α → MV} {k : α → PyData} {xs : List α} (e : ∀ x ∈ xs, toD h n (g x) = some (k x)) : toD h (n + 1) (.tup (xs.map g)) = some (.tuple (xs.map k)) := by
  have q : toD h (n + 1) (.tup (xs.map g)) = (toDs (toD h n) (xs.map g)).map .tuple := by
    unfold toD
    rfl
  rw [q, toDs_mapG e]
  rfl
theorem toD_lstG {α : Type} {h : MH} {n : Nat} {g : α → MV} {k : α → PyData} {xs : List α} (e : ∀ x ∈ xs, toD h n (g x) = some (k x)) : toD h (n + 1) (.lst (xs.map g)) = some (.list (xs.map k)) := by
  rw [toD_lst, toDs_mapG e]
  rfl
theorem repr_ok {h : MH} {v : MV} {d : PyData} (hv : isRef v = true) (e : toD h 64 v = some d) (s : Sho 64 500000 d) : reprM [v] h = .ok (.str d.shown) h := by
  unfold reprM
  simp only [e]
  rw [hv, s.a, s.b, decide_eq_true s.c, decide_eq_true]
  · rfl
  · have h2 := PyData.shown_le 30 (by decide) d (PyData.leavesShort_of_canLay0 30 d s.f s.e)
    have e : sizeLine = 16777216 := by decide
    have := s.g
    omega
theorem Sho.ok {k w : Nat} {d : PyData} (s : Sho k w d) : PyData.strOk d.shown = true := by
  show d.shown.cps.all (· < 0x110000) = true
  rw [Array.all_eq_true_iff_forall_mem]
  intro c m
  have := s.z c
  rcases Nat.lt_or_ge c 200 with q | q
  · exact decide_eq_true (by omega)
  · exact absurd (Array.mem_toList_iff.mpr m) (this q)
theorem ne_str {h : MH} {z : Str} {ins : List Str} {t : EqT} (hz : PyData.strOk z = true) : eqK ins (neA t) (.str z) (.str z) h = .ok (.bl false) h := by
  rw [(eqK_pl (of_decide_eq_true rfl) (of_decide_eq_true rfl)).2]
  have q : neM (.str z) (.str z) h = if SeqAt.shaped (.str z) && SeqAt.shaped (.str z) then .ok (.bl (!PyData.eqv (.str z) (.str z))) h else .bad := of_eq_true (eq_self _)
  rw [q]
  have e1 : SeqAt.shaped (.str z) = true := by
    unfold SeqAt.shaped
    show (PyData.strOk z && _) = true
    rw [hz]
    rfl
  have e2 : PyData.eqv (.str z) (.str z) = true := by
    show (z == z) = true
    exact beq_self_eq_true z
  rw [e1, e2]
  rfl
end M

set_option Elab.async false
set_option linter.all false
set_option maxRecDepth 100000
set_option maxHeartbeats 8000000
namespace K03
open PySem PySem.Spec PyProof.Rows L2 DL M
def cfg : Cfg where
  nFree := ["abs", "all", "bool", "int", "isinstance", "len", "list", "range", "repr", "tuple"]
  nInts := [("MOST_DOORS", 4), ("MOST_OUTS", 6), ("MOST_POSITIONS", 400), ("MOST_GIVES", 1000000000000)]
  nStrs := []
  nImp := []
  nDefs := ["is_integer", "need_integer", "is_row", "is_counts", "is_pass", "need_rows", "_law_pen", "_law_draw", "_law_pick", "_law_heard", "_law_rows", "_law_tupled", "_law_copy", "_law_wrong", "_law_refused", "_law_other", "law"]
  cVal := [("Part", ["doors", "outs", "rows", "many"])]
  cMut := []
  cErr := [("BadNumber", ["part"]), ("BadPart", ["part"])]
  cAbs := []
  cSup := [("Part", ["Part"]), ("BadNumber", ["BadNumber", "MarbleError", "ValueError"]), ("BadPart", ["BadPart", "MarbleError", "ValueError"])]
  cTop := some "MarbleError"
  cEq := ["Part"]
/-! the program's rows -/
def top (i : Nat) : Stmt := PySem.Challenge.pw_countsalone_k03_parts_made_and_refused.main.body.getD i (.Pass ⟨0, 0, 0, 0⟩)
def meth (i j : Nat) : Stmt := match top i with
  | .ClassDef _ _ _ b _ _ _ _ _ _ _ => b.getD j (.Pass ⟨0, 0, 0, 0⟩)
  | _ => .Pass ⟨0, 0, 0, 0⟩
abbrev eqX0 := eqK cfg.insN (eqA [])
abbrev neX0 := eqK cfg.insN (neA [])
/-! ### is_integer -/
def s_is_integer : SF := (retS (andE (unE (isiM cfg.insN cfg.errN cfg.sub (.bt "int")) (varE 0)) (notE (unE (isiM cfg.insN cfg.errN cfg.sub (.bt "bool")) (varE 0)))))
def f_is_integer : LF := defM 1 s_is_integer
/-! ### need_integer -/
def s_need_integer : SF := (seqS (ifS (orT (notT (testT (callE (ordM [0] [] f_is_integer) (lenA 1 (consA (varE 1) nilA))))) (testT (binE ltM (varE 1) (varE 2)))) (rzS "BadNumber" (varE 0)) skipS) (seqS (ifS (andT (testT (binE notNM (varE 3) (retE .non))) (testT (binE gtM (varE 1) (varE 3)))) (rzS "BadNumber" (varE 0)) skipS) (retS (varE 1))))
def f_need_integer : LF := defM 4 s_need_integer
/-! ### Part.__eq__ -/
def s_Part___eq__ : SF := (seqS (ifS (notT (testT (unE (isiM cfg.insN cfg.errN cfg.sub (.own "Part")) (varE 1)))) (retS (retE (.bl false))) skipS) (retS (andE (binE eqX0 (unE (fldM cfg.insL cfg.cErr cfg.F "doors") (varE 0)) (unE (fldM cfg.insL cfg.cErr cfg.F "doors") (varE 1))) (andE (binE eqX0 (unE (fldM cfg.insL cfg.cErr cfg.F "outs") (varE 0)) (unE (fldM cfg.insL cfg.cErr cfg.F "outs") (varE 1))) (binE eqX0 (unE (fldM cfg.insL cfg.cErr cfg.F "rows") (varE 0)) (unE (fldM cfg.insL cfg.cErr cfg.F "rows") (varE 1)))))))
def f_Part___eq__ : LF := defM 2 s_Part___eq__
def eqs : EqT := [("Part", f_Part___eq__)]
abbrev eqX := eqK cfg.insN (eqA eqs)
abbrev neX := eqK cfg.insN (neA eqs)
/-! ### is_row -/
def e_is_row_3 : EF := (callE (ordM [0] [] f_is_integer) (lenA 1 (consA (varE 3) nilA)))
def s_is_row : SF := (seqS (ifS (orT (notT (testT (unE (isiTN cfg.insN cfg.sub ["list", "tuple"]) (varE 0)))) (testT (binE neX (callE lenM (consA (varE 0) nilA)) (varE 1)))) (retS (retE (.bl false))) skipS) (retS (callE allM (consA (lcE false (seqIt (varE 0)) (CT.one 3) yesT e_is_row_3 [2, 3]) nilA))))
def f_is_row : LF := defM 4 s_is_row
/-! ### is_counts -/
def e_is_counts_1 : EF := (binE geM (varE 3) (retE (.int 0)))
def s_is_counts : SF := (retS (andE (callE (ordM [0, 1] [] f_is_row) (lenA 2 (consA (varE 0) (consA (varE 1) nilA)))) (callE allM (consA (lcE false (seqIt (varE 0)) (CT.one 3) yesT e_is_counts_1 [2, 3]) nilA))))
def f_is_counts : LF := defM 4 s_is_counts
/-! ### is_pass -/
def e_is_pass_5 : EF := (binE leM (varE 4) (retE (.int 1000000000000)))
def s_is_pass : SF := (seqS (ifS (orT (notT (testT (unE (isiTN cfg.insN cfg.sub ["list", "tuple"]) (varE 0)))) (orT (testT (binE neX (callE lenM (consA (varE 0) nilA)) (retE (.int 2)))) (notT (testT (callE (ordM [0] [] f_is_integer) (lenA 1 (consA (binE ixM (varE 0) (retE (.int 0))) nilA))))))) (retS (retE (.bl false))) skipS) (seqS (ifS (orT (notT (testT (chainE leM ltM (retE (.int 0)) (binE ixM (varE 0) (retE (.int 0))) (varE 1)))) (notT (testT (callE (ordM [0, 1] [] f_is_counts) (lenA 2 (consA (binE ixM (varE 0) (retE (.int 1))) (consA (varE 2) nilA))))))) (retS (retE (.bl false))) skipS) (retS (callE allM (consA (lcE false (seqIt (binE ixM (varE 0) (retE (.int 1)))) (CT.one 4) yesT e_is_pass_5 [3, 4]) nilA)))))
def f_is_pass : LF := defM 5 s_is_pass
/-! ### need_rows -/
def e_need_rows_6 : EF := (callE (ordM [0, 1, 2] [] f_is_pass) (lenA 3 (consA (varE 5) (consA (callE lenM (consA (varE 0) nilA)) (consA (varE 2) nilA)))))
def b_need_rows_3 : SF := (seqS (ifS (orT (notT (testT (unE (isiTN cfg.insN cfg.sub ["list", "tuple"]) (varE 3)))) (testT (binE neX (callE lenM (consA (varE 3) nilA)) (varE 1)))) (rzS "BadPart" (retE (.str "rows"))) skipS) (ifS (notT (testT (callE allM (consA (lcE false (seqIt (varE 3)) (CT.one 5) yesT e_need_rows_6 [4, 5]) nilA)))) (rzS "BadPart" (retE (.str "rows"))) skipS))
def e_need_rows_8 : EF := (tupE (consA (binE ixM (varE 5) (retE (.int 0))) (consA (callE tupM (consA (binE ixM (varE 5) (retE (.int 1))) nilA)) nilA)))
def e_need_rows_8_2 : EF := (callE tupM (consA (lcE false (seqIt (varE 3)) (CT.one 5) yesT e_need_rows_8 [4, 5]) nilA))
def s_need_rows : SF := (seqS (ifS (orT (notT (testT (unE (isiTN cfg.insN cfg.sub ["list", "tuple"]) (varE 0)))) (notT (testT (chainE leM leM (retE (.int 1)) (callE lenM (consA (varE 0) nilA)) (retE (.int 400)))))) (rzS "BadPart" (retE (.str "rows"))) skipS) (seqS (forS [3] (seqIt (varE 0)) (nameG 3) b_need_rows_3) (retS (callE tupM (consA (lcE false (seqIt (varE 0)) (CT.one 3) yesT e_need_rows_8_2 [4, 3]) nilA)))))
def f_need_rows : LF := defM 6 s_need_rows
/-! ### Part.__init__ -/
def s_Part___init__ : SF := (seqS (fldS cfg.insL cfg.F "doors" (varE 0) (callE (ordM [0, 1, 2, 3] [.non] f_need_integer) (lenA 4 (consA (retE (.str "doors")) (consA (varE 1) (consA (retE (.int 1)) (consA (retE (.int 4)) nilA))))))) (seqS (fldS cfg.insL cfg.F "outs" (varE 0) (callE (ordM [0, 1, 2, 3] [.non] f_need_integer) (lenA 4 (consA (retE (.str "outs")) (consA (varE 2) (consA (retE (.int 0)) (consA (retE (.int 6)) nilA))))))) (seqS (fldS cfg.insL cfg.F "rows" (varE 0) (callE (ordM [0, 1, 2] [] f_need_rows) (lenA 3 (consA (varE 3) (consA (varE 1) (consA (varE 2) nilA)))))) (fldS cfg.insL cfg.F "many" (varE 0) (callE lenM (consA (unE (fldM cfg.insL cfg.cErr cfg.F "rows") (varE 0)) nilA))))))
def f_Part___init__ : LF := defM 4 s_Part___init__
def mk_Part_3 : LF := gc (makeM cfg.F "Part" (ordM [0, 1, 2, 3] [] f_Part___init__))
def mk_Part_0_rows_outs_doors : LF := gc (makeM cfg.F "Part" (ordM [0, 3, 2, 1] [] f_Part___init__))
/-! ### _law_pen -/
def s__law_pen : SF := (retS (lstE true (consA (callE (listM false) (consA (slE false (varE 0) noO (someO (retE (.int 63)))) nilA)) (consA (retE (.int 0)) (consA (retE (.int 0)) nilA)))))
def f__law_pen : LF := defM 1 s__law_pen
/-! ### _law_draw -/
def s__law_draw : SF := (seqS (ifS (testT (binE gtM (binE ixM (varE 0) (retE (.int 2))) (retE (.int 0)))) (seqS (asgS (binE modM (callE int1M (consA (binE ixM (varE 0) (retE (.int 2))) nilA)) (varE 1)) (nameG 2)) (seqS (asgS (binE fdivM (callE int1M (consA (binE ixM (varE 0) (retE (.int 2))) nilA)) (varE 1)) (subG (varE 0) (retE (.int 2)))) (retS (varE 2)))) skipS) (seqS (asgS (binE ixM (varE 0) (retE (.int 1))) (nameG 3)) (seqS (asgS (binE (addM false) (varE 3) (retE (.int 1))) (subG (varE 0) (retE (.int 1)))) (seqS (asgS (binE (addM false) (binE (mulM false) (retE (.int 8117)) (varE 3)) (retE (.int 467))) (nameG 4)) (seqS (ifS (testT (binE neX (binE ixM (varE 0) (retE (.int 0))) (lstE false nilA))) (asgS (binE ixM (binE ixM (varE 0) (retE (.int 0))) (binE modM (callE int1M (consA (varE 3) nilA)) (callE lenM (consA (binE ixM (varE 0) (retE (.int 0))) nilA)))) (nameG 4)) skipS) (seqS (ifS (andT (testT (binE ltM (varE 3) (callE lenM (consA (binE ixM (varE 0) (retE (.int 0))) nilA)))) (testT (binE geM (callE absM (consA (varE 4) nilA)) (binE powM (retE (.int 10)) (retE (.int 18)))))) (seqS (asgS (binE (addM false) (binE (mulM false) (retE (.int 2)) (binE subM (callE absM (consA (varE 4) nilA)) (binE powM (retE (.int 10)) (retE (.int 18))))) (callE int1M (consA (binE ltM (varE 4) (retE (.int 0))) nilA))) (nameG 5)) (seqS (asgS (binE fdivM (callE int1M (consA (varE 5) nilA)) (varE 1)) (subG (varE 0) (retE (.int 2)))) (retS (binE modM (callE int1M (consA (varE 5) nilA)) (varE 1))))) skipS) (seqS (asgS (binE modM (callE int1M (consA (binE powM (binE (addM false) (binE (addM false) (binE modM (callE int1M (consA (varE 4) nilA)) (retE (.int 2147483549))) (binE (mulM false) (retE (.int 8117)) (varE 3))) (retE (.int 467))) (retE (.int 3))) nilA)) (retE (.int 2147483629))) (nameG 6)) (seqS (asgS (binE modM (callE int1M (consA (binE powM (binE (addM false) (binE (addM false) (binE (mulM false) (varE 6) (binE (addM false) (binE (mulM false) (retE (.int 2)) (varE 3)) (retE (.int 137)))) (binE (mulM false) (binE (mulM false) (retE (.int 8117)) (varE 3)) (varE 3))) (retE (.int 83))) (retE (.int 5))) nilA)) (retE (.int 2147483563))) (nameG 6)) (retS (binE modM (callE int1M (consA (binE fdivM (varE 6) (retE (.int 16))) nilA)) (varE 1)))))))))))
def f__law_draw : LF := defM 7 s__law_draw
/-! ### _law_pick -/
def s__law_pick : SF := (retS (binE ixM (varE 1) (callE (ordM [0, 1] [] f__law_draw) (lenA 2 (consA (varE 0) (consA (callE lenM (consA (varE 1) nilA)) nilA))))))
def f__law_pick : LF := defM 2 s__law_pick
/-! ### _law_heard -/
def s__law_heard (f : Addr) (θ : MH → R MV) : SF := (seqS (parS 3 (consA (retE .non) (consA (retE .non) (consA (lstE true nilA) nilA))) (consG (nameG 1) (consG (nameG 2) (consG (nameG 3) nilG)))) (seqS (afterS [0] (tryS cfg.errN 4 2 (asgS (thkE 0 f θ) (nameG 1)))) (seqS (ifS (testT (binE isNM (varE 2) (retE .non))) (retS (lstE false (consA (varE 1) nilA))) skipS) (seqS (ifS (testT (unE (isiM cfg.insN cfg.errN cfg.sub (.own "BadNumber")) (varE 2))) (exprS (methE isL appM (varE 3) (consA (tupE (consA (retE (.str "badnumber")) (consA (unE (fldM cfg.insL cfg.cErr cfg.F "part") (varE 2)) nilA))) nilA))) skipS) (seqS (ifS (testT (unE (isiM cfg.insN cfg.errN cfg.sub (.own "BadPart")) (varE 2))) (exprS (methE isL appM (varE 3) (consA (tupE (consA (retE (.str "badpart")) (consA (unE (fldM cfg.insL cfg.cErr cfg.F "part") (varE 2)) nilA))) nilA))) skipS) (retS (ifE (testT (binE eqX (callE lenM (consA (varE 3) nilA)) (retE (.int 1)))) (binE ixM (varE 3) (retE (.int 0))) (tupE (consA (retE (.str "odd")) nilA)))))))))
def o__law_heard (θ : MH → R MV) (h : MH) : R MV := gcR h.length (retOf (s__law_heard 0 θ (startM 5 [.raw 0]) h))
/-! ### _law_rows -/
def e__law_rows_2 : EF := (callE (ordM [0, 1] [] f__law_draw) (lenA 2 (consA (varE 0) (consA (varE 4) nilA))))
def e__law_rows_2_2 : EF := (lstE false (consA (callE (ordM [0, 1] [] f__law_draw) (lenA 2 (consA (varE 0) (consA (varE 3) nilA)))) (consA (lcE false (rng1It (consA (varE 2) nilA)) (CT.one 8) yesT e__law_rows_2 [5, 8]) nilA)))
def e__law_rows_2_3 : EF := (lcE false (rng1It (consA (varE 1) nilA)) (CT.one 7) yesT e__law_rows_2_2 [5, 7])
def s__law_rows : SF := (seqS (asgS (callE (ordM [0, 1] [] f__law_pick) (lenA 2 (consA (varE 0) (consA (lstE false (consA (retE (.int 2)) (consA (retE (.int 4)) (consA (retE (.int 100)) (consA (binE (addM false) (binE powM (retE (.int 10)) (retE (.int 12))) (retE (.int 1))) nilA))))) nilA)))) (nameG 4)) (retS (lcE false (rng1It (consA (varE 3) nilA)) (CT.one 6) yesT e__law_rows_2_3 [5, 6])))
def f__law_rows : LF := defM 9 s__law_rows
/-! ### _law_tupled -/
def e__law_tupled_1 : EF := (tupE (consA (binE ixM (varE 3) (retE (.int 0))) (consA (callE tupM (consA (binE ixM (varE 3) (retE (.int 1))) nilA)) nilA)))
def e__law_tupled_1_2 : EF := (callE tupM (consA (lcE false (seqIt (varE 2)) (CT.one 3) yesT e__law_tupled_1 [1, 3]) nilA))
def s__law_tupled : SF := (retS (callE tupM (consA (lcE false (seqIt (varE 0)) (CT.one 2) yesT e__law_tupled_1_2 [1, 2]) nilA)))
def f__law_tupled : LF := defM 4 s__law_tupled
/-! ### _law_copy -/
def e__law_copy_1 : EF := (lstE true (consA (binE ixM (varE 3) (retE (.int 0))) (consA (callE (listM true) (consA (binE ixM (varE 3) (retE (.int 1))) nilA)) nilA)))
def e__law_copy_1_2 : EF := (lcE true (seqIt (varE 2)) (CT.one 3) yesT e__law_copy_1 [1, 3])
def s__law_copy : SF := (retS (lcE true (seqIt (varE 0)) (CT.one 2) yesT e__law_copy_1_2 [1, 2]))
def f__law_copy : LF := defM 4 s__law_copy
/-! ### _law_wrong -/
def s__law_wrong : SF := (seqS (parS 3 (consA (callE lenM (consA (varE 1) nilA)) (consA (callE (ordM [0] [] f__law_copy) (lenA 1 (consA (varE 1) nilA))) (consA (callE (ordM [0, 1] [] f__law_draw) (lenA 2 (consA (varE 0) (consA (retE (.int 9)) nilA)))) nilA))) (consG (nameG 4) (consG (nameG 5) (consG (nameG 6) nilG)))) (seqS (parS 2 (consA (callE (ordM [0, 1] [] f__law_draw) (lenA 2 (consA (varE 0) (consA (varE 4) nilA)))) (consA (callE (ordM [0, 1] [] f__law_draw) (lenA 2 (consA (varE 0) (consA (varE 2) nilA)))) nilA)) (consG (nameG 7) (consG (nameG 8) nilG))) (seqS (ifS (testT (binE eqX (varE 6) (retE (.int 0)))) (frzDS 5 (retS (callE (ordM [0, 1] [] f__law_pick) (lenA 2 (consA (varE 0) (consA (lstE false (consA (retE .non) (consA (retE (.int 5)) (consA (retE (.str "rows")) (consA (lstE false nilA) (consA (tupE nilA) (consA (dnewE false) (consA (retE (.bl true)) (consA (binE ixM (varE 1) (retE (.int 0))) (consA (binE (addM false) (varE 5) (lstE false (consA (lstE false nilA) nilA))) nilA)))))))))) nilA)))))) skipS) (seqS (ifS (testT (binE eqX (varE 6) (retE (.int 1)))) (frzCS 5 (asgS (callE (ordM [0, 1] [] f__law_pick) (lenA 2 (consA (varE 0) (consA (lstE false (consA (retE .non) (consA (lstE false nilA) (consA (binE (addM false) (binE ixM (varE 5) (varE 7)) (slE false (binE ixM (varE 5) (varE 7)) noO (someO (retE (.int 1))))) (consA (slE false (binE ixM (varE 5) (varE 7)) (someO (retE (.int 1))) noO) (consA (binE (mulM false) (retE (.str "x")) (varE 2)) (consA (retE (.int 0)) nilA))))))) nilA)))) (subG (varE 5) (varE 7)))) (ifS (testT (binE eqX (varE 6) (retE (.int 2)))) (asgS (callE (ordM [0, 1] [] f__law_pick) (lenA 2 (consA (varE 0) (consA (lstE false (consA (retE .non) (consA (retE (.int 0)) (consA (lstE false (consA (retE (.int 0)) nilA)) (consA (lstE false (consA (retE (.int 0)) (consA (binE (mulM false) (lstE false (consA (retE (.int 0)) nilA)) (varE 3)) (consA (retE (.int 0)) nilA)))) (consA (retE (.str "00")) (consA (dnewE false) nilA))))))) nilA)))) (subG (binE ixM (varE 5) (varE 7)) (varE 8))) (ifS (testT (binE eqX (varE 6) (retE (.int 3)))) (asgS (callE (ordM [0, 1] [] f__law_pick) (lenA 2 (consA (varE 0) (consA (lstE false (consA (unE negM (retE (.int 1))) (consA (varE 4) (consA (retE .non) (consA (retE (.bl true)) (consA (retE (.str "0")) (consA (binE powM (retE (.int 10)) (retE (.int 30))) (consA (lstE false (consA (retE (.int 0)) nilA)) nilA)))))))) nilA)))) (subG (binE ixM (binE ixM (varE 5) (varE 7)) (varE 8)) (retE (.int 0)))) (ifS (orT (testT (binE eqX (varE 6) (retE (.int 4)))) (testT (binE eqX (varE 3) (retE (.int 0))))) (asgS (callE (ordM [0, 1] [] f__law_pick) (lenA 2 (consA (varE 0) (consA (lstE false (consA (retE .non) (consA (retE (.int 7)) (consA (binE (mulM false) (retE (.str "0")) (binE (addM false) (varE 3) (retE (.int 1)))) (consA (binE (mulM false) (lstE false (consA (retE (.int 0)) nilA)) (binE (addM false) (varE 3) (retE (.int 1)))) (consA (binE (mulM false) (tupE (consA (retE (.int 0)) nilA)) (binE (addM false) (varE 3) (retE (.int 1)))) (consA (dnewE false) (consA (binE (mulM false) (lstE false (consA (retE .non) nilA)) (binE (addM false) (varE 3) (retE (.int 1)))) nilA)))))))) nilA)))) (subG (binE ixM (binE ixM (varE 5) (varE 7)) (varE 8)) (retE (.int 1)))) (ifS (testT (binE eqX (varE 6) (retE (.int 5)))) (asgS (binE (mulM false) (lstE false (consA (retE (.int 0)) nilA)) (binE subM (varE 3) (retE (.int 1)))) (subG (binE ixM (binE ixM (varE 5) (varE 7)) (varE 8)) (retE (.int 1)))) (asgS (callE (ordM [0, 1] [] f__law_pick) (lenA 2 (consA (varE 0) (consA (lstE false (consA (unE negM (retE (.int 1))) (consA (binE (addM false) (binE powM (retE (.int 10)) (retE (.int 12))) (retE (.int 1))) (consA (retE (.bl true)) (consA (retE .non) (consA (retE (.str "1")) (consA (lstE false (consA (retE (.int 1)) nilA)) (consA (binE powM (retE (.int 10)) (retE (.int 40))) nilA)))))))) nilA)))) (subG (binE ixM (binE ixM (binE ixM (varE 5) (varE 7)) (varE 8)) (retE (.int 1))) (callE (ordM [0, 1] [] f__law_draw) (lenA 2 (consA (varE 0) (consA (varE 3) nilA))))))))))) (frzDS 5 (retS (varE 5)))))))
def f__law_wrong : LF := defM 9 s__law_wrong
/-! ### _law_refused -/
def s__law_refused : SF := (seqS (parS 3 (consA (callE (ordM [0, 1] [] f__law_pick) (lenA 2 (consA (varE 0) (consA (lstE false (consA (retE (.int 0)) (consA (retE (.int 5)) (consA (unE negM (retE (.int 1))) (consA (retE (.bl true)) (consA (retE .non) (consA (retE (.str "1")) (consA (lstE false (consA (retE (.int 1)) nilA)) nilA)))))))) nilA)))) (consA (callE (ordM [0, 1] [] f__law_pick) (lenA 2 (consA (varE 0) (consA (lstE false (consA (unE negM (retE (.int 1))) (consA (retE (.int 7)) (consA (retE (.bl true)) (consA (retE .non) (consA (retE (.str "0")) (consA (tupE (consA (retE (.int 0)) nilA)) nilA))))))) nilA)))) (consA (callE (ordM [0, 1, 2, 3] [] f__law_wrong) (lenA 4 (consA (varE 0) (consA (varE 3) (consA (varE 1) (consA (varE 2) nilA)))))) nilA))) (consG (nameG 6) (consG (nameG 5) (consG (nameG 7) nilG)))) (seqS (asgS (lstE true (consA (hrdE o__law_heard (callE mk_Part_3 (lenA 3 (consA (varE 6) (consA (varE 5) (consA (varE 7) nilA)))))) nilA)) (nameG 4)) (seqS (exprS (methE isL appM (varE 4) (consA (hrdE o__law_heard (callE mk_Part_3 (lenA 3 (consA (varE 1) (consA (varE 5) (consA (varE 7) nilA)))))) nilA))) (seqS (exprS (methE isL appM (varE 4) (consA (hrdE o__law_heard (callE mk_Part_3 (lenA 3 (consA (varE 1) (consA (varE 2) (consA (varE 7) nilA)))))) nilA))) (seqS (exprS (methE isL appM (varE 4) (consA (hrdE o__law_heard (callE mk_Part_0_rows_outs_doors (lenA 3 (consA (varE 3) (consA (varE 2) (consA (varE 6) nilA)))))) nilA))) (retS (binE eqX (varE 4) (lstE false (consA (tupE (consA (retE (.str "badnumber")) (consA (retE (.str "doors")) nilA))) (consA (tupE (consA (retE (.str "badnumber")) (consA (retE (.str "outs")) nilA))) (consA (tupE (consA (retE (.str "badpart")) (consA (retE (.str "rows")) nilA))) (consA (tupE (consA (retE (.str "badnumber")) (consA (retE (.str "doors")) nilA))) nilA))))))))))))
def f__law_refused : LF := defM 8 s__law_refused
/-! ### _law_other -/
def e__law_other_11 : EF := (lstE false (consA (binE ixM (varE 10) (retE (.int 0))) (consA (binE (addM false) (binE ixM (varE 10) (retE (.int 1))) (lstE false (consA (retE (.int 0)) nilA))) nilA)))
def e__law_other_11_2 : EF := (lcE false (seqIt (varE 9)) (CT.one 10) yesT e__law_other_11 [8, 10])
def e__law_other_12 : EF := (binE (addM false) (varE 9) (slE false (varE 9) noO (someO (retE (.int 1)))))
def s__law_other : SF := (seqS (parS 3 (consA (callE (ordM [0] [] f__law_copy) (lenA 1 (consA (varE 3) nilA))) (consA (callE (ordM [0, 1] [] f__law_draw) (lenA 2 (consA (varE 0) (consA (callE lenM (consA (varE 3) nilA)) nilA)))) (consA (callE (ordM [0, 1] [] f__law_draw) (lenA 2 (consA (varE 0) (consA (varE 1) nilA)))) nilA))) (consG (nameG 4) (consG (nameG 5) (consG (nameG 6) nilG)))) (seqS (asgS (lstE true (consA (callE mk_Part_3 (lenA 3 (consA (varE 1) (consA (varE 2) (consA (binE (addM false) (varE 3) (slE false (varE 3) noO (someO (retE (.int 1))))) nilA))))) nilA)) (nameG 7)) (seqS (ifS (testT (binE gtM (varE 2) (retE (.int 0)))) (seqS (asgS (ifE (testT (binE ltM (binE ixM (binE ixM (binE ixM (binE ixM (varE 4) (varE 5)) (varE 6)) (retE (.int 1))) (retE (.int 0))) (retE (.int 5)))) (binE (addM false) (binE ixM (binE ixM (binE ixM (binE ixM (varE 4) (varE 5)) (varE 6)) (retE (.int 1))) (retE (.int 0))) (retE (.int 1))) (binE subM (binE ixM (binE ixM (binE ixM (binE ixM (varE 4) (varE 5)) (varE 6)) (retE (.int 1))) (retE (.int 0))) (retE (.int 1)))) (subG (binE ixM (binE ixM (binE ixM (varE 4) (varE 5)) (varE 6)) (retE (.int 1))) (retE (.int 0)))) (frzDS 4 (exprS (methE isL appM (varE 7) (consA (callE mk_Part_3 (lenA 3 (consA (varE 1) (consA (varE 2) (consA (varE 4) nilA))))) nilA))))) skipS) (seqS (ifS (testT (binE gtM (callE lenM (consA (varE 3) nilA)) (retE (.int 1)))) (seqS (asgS (callE (ordM [0] [] f__law_copy) (lenA 1 (consA (varE 3) nilA))) (nameG 4)) (seqS (asgS (binE modM (callE int1M (consA (binE (addM false) (binE ixM (binE ixM (binE ixM (varE 4) (varE 5)) (varE 6)) (retE (.int 0))) (retE (.int 1))) nilA)) (callE lenM (consA (varE 3) nilA))) (subG (binE ixM (binE ixM (varE 4) (varE 5)) (varE 6)) (retE (.int 0)))) (frzDS 4 (exprS (methE isL appM (varE 7) (consA (callE mk_Part_3 (lenA 3 (consA (varE 1) (consA (varE 2) (consA (varE 4) nilA))))) nilA)))))) skipS) (seqS (ifS (testT (binE ltM (varE 2) (retE (.int 6)))) (exprS (methE isL appM (varE 7) (consA (callE mk_Part_3 (lenA 3 (consA (varE 1) (consA (binE (addM false) (varE 2) (retE (.int 1))) (consA (lcE false (seqIt (varE 3)) (CT.one 9) yesT e__law_other_11_2 [8, 9]) nilA))))) nilA))) skipS) (frzS 7 (retS (ifE (testT (binE ltM (varE 1) (retE (.int 4)))) (binE (addM false) (varE 7) (lstE false (consA (callE mk_Part_3 (lenA 3 (consA (binE (addM false) (varE 1) (retE (.int 1))) (consA (varE 2) (consA (lcE false (seqIt (varE 3)) (CT.one 9) yesT e__law_other_12 [8, 9]) nilA))))) nilA))) (varE 7)))))))))
def f__law_other : LF := defM 11 s__law_other
/-! ### law -/
def e_law_15 : EF := (varE 13)
def t_law_15 : TF := (orT (testT (binE eqX (varE 9) (varE 13))) (orT (testT (binE eqX (varE 13) (varE 9))) (notT (testT (binE neX (varE 9) (varE 13))))))
def b_law_2 : SF := (seqS (parS 3 (consA (binE (addM false) (retE (.int 1)) (callE (ordM [0, 1] [] f__law_draw) (lenA 2 (consA (varE 1) (consA (retE (.int 4)) nilA))))) (consA (callE (ordM [0, 1] [] f__law_draw) (lenA 2 (consA (varE 1) (consA (retE (.int 7)) nilA)))) (consA (callE (ordM [0, 1] [] f__law_pick) (lenA 2 (consA (varE 1) (consA (lstE false (consA (retE (.int 1)) (consA (retE (.int 2)) (consA (retE (.int 3)) (consA (retE (.int 12)) nilA))))) nilA)))) nilA))) (consG (nameG 3) (consG (nameG 4) (consG (nameG 5) nilG)))) (seqS (asgS (callE (ordM [0, 1, 2, 3] [] f__law_rows) (lenA 4 (consA (varE 1) (consA (varE 3) (consA (varE 4) (consA (varE 5) nilA)))))) (nameG 6)) (seqS (parS 2 (consA (callE (ordM [0] [] f__law_tupled) (lenA 1 (consA (varE 6) nilA))) (consA (callE (ordM [0] [] f__law_copy) (lenA 1 (consA (varE 6) nilA))) nilA)) (consG (nameG 7) (consG (nameG 8) nilG))) (seqS (asgS (callE mk_Part_3 (lenA 3 (consA (varE 3) (consA (varE 4) (consA (varE 8) nilA))))) (nameG 9)) (seqS (asgS (retE (.int 99)) (subG (binE ixM (binE ixM (varE 8) (retE (.int 0))) (retE (.int 0))) (retE (.int 0)))) (seqS (exprS (methE isL appM (binE ixM (binE ixM (binE ixM (varE 8) (retE (.int 0))) (retE (.int 0))) (retE (.int 1))) (consA (retE (.int 5)) nilA))) (seqS (exprS (methE isL appM (varE 8) (consA (retE .non) nilA))) (seqS (ifS (testT (binE neX (callE reprM (consA (lstE false (consA (unE (fldM cfg.insL cfg.cErr cfg.F "doors") (varE 9)) (consA (unE (fldM cfg.insL cfg.cErr cfg.F "outs") (varE 9)) (consA (unE (fldM cfg.insL cfg.cErr cfg.F "many") (varE 9)) (consA (unE (fldM cfg.insL cfg.cErr cfg.F "rows") (varE 9)) nilA))))) nilA)) (callE reprM (consA (lstE false (consA (varE 3) (consA (varE 4) (consA (varE 5) (consA (varE 7) nilA))))) nilA)))) (retS (retE (.bl false))) skipS) (seqS (asgS (callE mk_Part_0_rows_outs_doors (lenA 3 (consA (varE 7) (consA (varE 4) (consA (varE 3) nilA))))) (nameG 10)) (seqS (ifS (orT (notT (testT (binE eqX (varE 9) (varE 10)))) (testT (binE neX (varE 9) (varE 10)))) (retS (retE (.bl false))) skipS) (seqS (ifS (testT (binE neX (lcE false (seqIt (binE (addM false) (callE (ordM [0, 1, 2, 3] [] f__law_other) (lenA 4 (consA (varE 1) (consA (varE 3) (consA (varE 4) (consA (varE 6) nilA)))))) (lstE false (consA (varE 7) (consA (retE .non) (consA (tupE (consA (varE 3) (consA (varE 4) (consA (varE 7) nilA)))) nilA)))))) (CT.one 13) t_law_15 e_law_15 [12, 13]) (lstE false nilA))) (retS (retE (.bl false))) skipS) (ifS (orT (notT (testT (callE (ordM [0, 1, 2, 3] [] f__law_refused) (lenA 4 (consA (varE 1) (consA (varE 3) (consA (varE 4) (consA (varE 6) nilA)))))))) (notT (testT (callE (ordM [0, 1, 2, 3] [] f__law_refused) (lenA 4 (consA (varE 1) (consA (varE 3) (consA (varE 4) (consA (varE 6) nilA))))))))) (retS (retE (.bl false))) skipS))))))))))))
def e_law_20 : EF := (lstE false (consA (lstE false (consA (binE modM (callE int1M (consA (binE (addM false) (varE 14) (retE (.int 1))) nilA)) (retE (.int 400))) (consA (lstE false (consA (varE 14) nilA)) nilA))) nilA))
def s_law : SF := (seqS (asgS (callE (ordM [0] [] f__law_pen) (lenA 1 (consA (varE 0) nilA))) (nameG 1)) (seqS (forS [2, 3, 4, 5, 6, 7, 8, 9, 10] (rng1It (consA (retE (.int 4)) nilA)) (nameG 2) b_law_2) (seqS (ifS (testT (binE eqX (callE (ordM [0, 1] [] f__law_draw) (lenA 2 (consA (varE 1) (consA (retE (.int 9)) nilA)))) (retE (.int 0)))) (seqS (asgS (lcE false (rng1It (consA (retE (.int 400)) nilA)) (CT.one 14) yesT e_law_20 [12, 14]) (nameG 11)) (ifS (orT (testT (binE neX (unE (fldM cfg.insL cfg.cErr cfg.F "many") (callE mk_Part_3 (lenA 3 (consA (retE (.int 1)) (consA (retE (.int 1)) (consA (varE 11) nilA)))))) (retE (.int 400)))) (testT (binE neX (hrdE o__law_heard (callE mk_Part_3 (lenA 3 (consA (retE (.int 1)) (consA (retE (.int 1)) (consA (binE (addM false) (varE 11) (lstE false (consA (lstE false (consA (lstE false (consA (retE (.int 0)) (consA (lstE false (consA (retE (.int 0)) nilA)) nilA))) nilA)) nilA))) nilA)))))) (tupE (consA (retE (.str "badpart")) (consA (retE (.str "rows")) nilA)))))) (retS (retE (.bl false))) skipS)) skipS) (retS (binE eqX (unE (fldM cfg.insL cfg.cErr cfg.F "rows") (callE mk_Part_3 (lenA 3 (consA (retE (.int 1)) (consA (retE (.int 0)) (consA (lstE false (consA (lstE false (consA (tupE (consA (retE (.int 0)) (consA (tupE nilA) nilA))) nilA)) nilA)) nilA)))))) (tupE (consA (tupE (consA (tupE (consA (retE (.int 0)) (consA (tupE nilA) nilA))) nilA)) nilA)))))))
def f_law : LF := defM 15 s_law
end K03

set_option Elab.async false
set_option linter.all false
set_option maxRecDepth 100000
set_option maxHeartbeats 8000000
namespace K03
open PySem PySem.Spec PyProof.Rows L2 DL M
section
variable {h : MH} {y : MV} {μ : ME}
@[simp] theorem fk_Part_doors : fldK cfg.insL cfg.F "doors" y (.ref h.length) μ (h ++ [.ins "Part" []]) = .next μ (h ++ [.ins "Part" [("doors", y)]]) := fldK_new.trans (by kernel_rfl)
@[simp] theorem fm_Part_doors {x0 x1 x2 x3 : MV} : fldM cfg.insL cfg.cErr cfg.F "doors" (.ins "Part" [x0, x1, x2, x3]) h = .ok x0 h := fldM_ins.trans (by kernel_rfl)
@[simp] theorem fn_Part_doors_1 {x0 : MV} : fldM cfg.insL cfg.cErr cfg.F "doors" (.ref h.length) (h ++ [.ins "Part" [("doors", x0)]]) = .ok x0 (h ++ [.ins "Part" [("doors", x0)]]) := fldM_new.trans (by kernel_rfl)
@[simp] theorem fn_Part_doors_2 {x0 x1 : MV} : fldM cfg.insL cfg.cErr cfg.F "doors" (.ref h.length) (h ++ [.ins "Part" [("doors", x0), ("outs", x1)]]) = .ok x0 (h ++ [.ins "Part" [("doors", x0), ("outs", x1)]]) := fldM_new.trans (by kernel_rfl)
@[simp] theorem fn_Part_doors_3 {x0 x1 x2 : MV} : fldM cfg.insL cfg.cErr cfg.F "doors" (.ref h.length) (h ++ [.ins "Part" [("doors", x0), ("outs", x1), ("rows", x2)]]) = .ok x0 (h ++ [.ins "Part" [("doors", x0), ("outs", x1), ("rows", x2)]]) := fldM_new.trans (by kernel_rfl)
@[simp] theorem fn_Part_doors_4 {x0 x1 x2 x3 : MV} : fldM cfg.insL cfg.cErr cfg.F "doors" (.ref h.length) (h ++ [.ins "Part" [("doors", x0), ("outs", x1), ("rows", x2), ("many", x3)]]) = .ok x0 (h ++ [.ins "Part" [("doors", x0), ("outs", x1), ("rows", x2), ("many", x3)]]) := fldM_new.trans (by kernel_rfl)
@[simp] theorem fk_Part_outs {x0 : MV} : fldK cfg.insL cfg.F "outs" y (.ref h.length) μ (h ++ [.ins "Part" [("doors", x0)]]) = .next μ (h ++ [.ins "Part" [("doors", x0), ("outs", y)]]) := fldK_new.trans (by kernel_rfl)
@[simp] theorem fm_Part_outs {x0 x1 x2 x3 : MV} : fldM cfg.insL cfg.cErr cfg.F "outs" (.ins "Part" [x0, x1, x2, x3]) h = .ok x1 h := fldM_ins.trans (by kernel_rfl)
@[simp] theorem fn_Part_outs_2 {x0 x1 : MV} : fldM cfg.insL cfg.cErr cfg.F "outs" (.ref h.length) (h ++ [.ins "Part" [("doors", x0), ("outs", x1)]]) = .ok x1 (h ++ [.ins "Part" [("doors", x0), ("outs", x1)]]) := fldM_new.trans (by kernel_rfl)
@[simp] theorem fn_Part_outs_3 {x0 x1 x2 : MV} : fldM cfg.insL cfg.cErr cfg.F "outs" (.ref h.length) (h ++ [.ins "Part" [("doors", x0), ("outs", x1), ("rows", x2)]]) = .ok x1 (h ++ [.ins "Part" [("doors", x0), ("outs", x1), ("rows", x2)]]) := fldM_new.trans (by kernel_rfl)
@[simp] theorem fn_Part_outs_4 {x0 x1 x2 x3 : MV} : fldM cfg.insL cfg.cErr cfg.F "outs" (.ref h.length) (h ++ [.ins "Part" [("doors", x0), ("outs", x1), ("rows", x2), ("many", x3)]]) = .ok x1 (h ++ [.ins "Part" [("doors", x0), ("outs", x1), ("rows", x2), ("many", x3)]]) := fldM_new.trans (by kernel_rfl)
@[simp] theorem fk_Part_rows {x0 x1 : MV} : fldK cfg.insL cfg.F "rows" y (.ref h.length) μ (h ++ [.ins "Part" [("doors", x0), ("outs", x1)]]) = .next μ (h ++ [.ins "Part" [("doors", x0), ("outs", x1), ("rows", y)]]) := fldK_new.trans (by kernel_rfl)
@[simp] theorem fm_Part_rows {x0 x1 x2 x3 : MV} : fldM cfg.insL cfg.cErr cfg.F "rows" (.ins "Part" [x0, x1, x2, x3]) h = .ok x2 h := fldM_ins.trans (by kernel_rfl)
@[simp] theorem fn_Part_rows_3 {x0 x1 x2 : MV} : fldM cfg.insL cfg.cErr cfg.F "rows" (.ref h.length) (h ++ [.ins "Part" [("doors", x0), ("outs", x1), ("rows", x2)]]) = .ok x2 (h ++ [.ins "Part" [("doors", x0), ("outs", x1), ("rows", x2)]]) := fldM_new.trans (by kernel_rfl)
@[simp] theorem fn_Part_rows_4 {x0 x1 x2 x3 : MV} : fldM cfg.insL cfg.cErr cfg.F "rows" (.ref h.length) (h ++ [.ins "Part" [("doors", x0), ("outs", x1), ("rows", x2), ("many", x3)]]) = .ok x2 (h ++ [.ins "Part" [("doors", x0), ("outs", x1), ("rows", x2), ("many", x3)]]) := fldM_new.trans (by kernel_rfl)
@[simp] theorem fk_Part_many {x0 x1 x2 : MV} : fldK cfg.insL cfg.F "many" y (.ref h.length) μ (h ++ [.ins "Part" [("doors", x0), ("outs", x1), ("rows", x2)]]) = .next μ (h ++ [.ins "Part" [("doors", x0), ("outs", x1), ("rows", x2), ("many", y)]]) := fldK_new.trans (by kernel_rfl)
@[simp] theorem fm_Part_many {x0 x1 x2 x3 : MV} : fldM cfg.insL cfg.cErr cfg.F "many" (.ins "Part" [x0, x1, x2, x3]) h = .ok x3 h := fldM_ins.trans (by kernel_rfl)
@[simp] theorem fn_Part_many_4 {x0 x1 x2 x3 : MV} : fldM cfg.insL cfg.cErr cfg.F "many" (.ref h.length) (h ++ [.ins "Part" [("doors", x0), ("outs", x1), ("rows", x2), ("many", x3)]]) = .ok x3 (h ++ [.ins "Part" [("doors", x0), ("outs", x1), ("rows", x2), ("many", x3)]]) := fldM_new.trans (by kernel_rfl)
@[simp] theorem dn_Part {x0 x1 x2 x3 : MV} : doneM cfg.F "Part" h.length (h ++ [.ins "Part" [("doors", x0), ("outs", x1), ("rows", x2), ("many", x3)]]) = .ok (.ins "Part" [x0, x1, x2, x3]) (h ++ [.dead]) := doneM_new.trans (by kernel_rfl)
@[simp] theorem is_Part_Part {fs : List MV} : isiM cfg.insN cfg.errN cfg.sub (.own "Part") (.ins "Part" fs) h = .ok (.bl true) h := by kernel_rfl
theorem ask_Part : askOk cfg.insN cfg.errN (.own "Part") = true := by kernel_rfl
theorem isp_Part {v : MV} (p : pl h v = true) : isiM cfg.insN cfg.errN cfg.sub (.own "Part") v h = .ok (.bl false) h := isi_own p ask_Part
@[simp] theorem fe_BadNumber_part {x0 : MV} : fldM cfg.insL cfg.cErr cfg.F "part" (.exc "BadNumber" [x0]) h = .ok x0 h := fldM_exc.trans (by kernel_rfl)
@[simp] theorem ie_BadNumber_BadNumber {fs : List MV} : isiM cfg.insN cfg.errN cfg.sub (.own "BadNumber") (.exc "BadNumber" fs) h = .ok (.bl true) h := by kernel_rfl
@[simp] theorem ie_BadNumber_BadPart {fs : List MV} : isiM cfg.insN cfg.errN cfg.sub (.own "BadPart") (.exc "BadNumber" fs) h = .ok (.bl false) h := by kernel_rfl
theorem in_BadNumber : cfg.errN.contains "BadNumber" = true := by kernel_rfl
@[simp] theorem im_BadNumber : ("BadNumber" : Str) ∈ cfg.errN := List.mem_of_elem_eq_true in_BadNumber
@[simp] theorem fe_BadPart_part {x0 : MV} : fldM cfg.insL cfg.cErr cfg.F "part" (.exc "BadPart" [x0]) h = .ok x0 h := fldM_exc.trans (by kernel_rfl)
@[simp] theorem ie_BadPart_BadNumber {fs : List MV} : isiM cfg.insN cfg.errN cfg.sub (.own "BadNumber") (.exc "BadPart" fs) h = .ok (.bl false) h := by kernel_rfl
@[simp] theorem ie_BadPart_BadPart {fs : List MV} : isiM cfg.insN cfg.errN cfg.sub (.own "BadPart") (.exc "BadPart" fs) h = .ok (.bl true) h := by kernel_rfl
theorem in_BadPart : cfg.errN.contains "BadPart" = true := by kernel_rfl
@[simp] theorem im_BadPart : ("BadPart" : Str) ∈ cfg.errN := List.mem_of_elem_eq_true in_BadPart
end
end K03

set_option Elab.async false
set_option linter.all false
set_option maxRecDepth 100000
set_option maxHeartbeats 4000000
namespace K03
open PySem PySem.Spec PyProof.Rows L2 DL M
open PySem.W (Datum Tup)
@[simp] theorem is_integer_v {h : MH} {v : MV} (p : pl h v = true) : f_is_integer [v] h = .ok (.bl (isZ v)) h := by
  unfold f_is_integer defM gc bodyM s_is_integer startM
  simp [isi_int p, isi_bool p]
  cases hb : isIB v <;> cases hc : isBl v <;> cases v <;> first | rfl | (cases hb; done) | (cases hc; done) | simp [isZ] 
theorem need_integer_v {h : MH} {v w : MV} {a b : Int} (p : pl h v = true) (hw : w = .non ∨ w = .int b) : f_need_integer [.str x, v, .int a, w] h = if isZ v && decide (a ≤ iv v) && (isNon w || decide (iv v ≤ b)) then .ok v h else .exc "BadNumber" [.str x] h := by
  unfold f_need_integer defM gc bodyM s_need_integer startM
  by_cases hi : isZ v = true
  · rw [isZ_iv hi]
    generalize iv v = i
    rcases hw with rfl | rfl
    · by_cases h1 : i < a
      · simp [h1, show ¬ a ≤ i by omega]
      · simp [h1, show a ≤ i by omega]
    · by_cases h1 : i < a
      · simp [h1, show ¬ a ≤ i by omega]
      · by_cases h2 : b < i
        · simp [h1, h2, show a ≤ i by omega, show ¬ i ≤ b by omega]
        · simp [h1, h2, show a ≤ i by omega, show i ≤ b by omega]
  · simp [is_integer_v p, hi]
/-- a row of integers -/
def rowB (h : MH) (v : MV) (n : Int) : Bool := match sq h v with
  | some xs => decide ((xs.length : Int) = n) && xs.all isZ
  | none => false
def cntB (h : MH) (v : MV) (n : Int) : Bool := match sq h v with
  | some xs => decide ((xs.length : Int) = n) && xs.all isZ && xs.all fun x => decide (0 ≤ iv x)
  | none => false
/-- its items are plain -/
def plS (h : MH) (v : MV) : Prop := pl h v = true ∧ ∀ xs, sq h v = some xs → xs.length < 1000000 ∧ ∀ x ∈ xs, pl h x = true
theorem is_row_v {h : MH} {v : MV} {n : Int} (p : plS h v) : f_is_row [v, .int n] h = .ok (.bl (rowB h v n)) h := by
  unfold f_is_row defM gc bodyM s_is_row startM rowB
  cases hs : sq h v with
  | none => simp [isi_lt p.1, hs]
  | some xs =>
    obtain ⟨h1, h2⟩ := p.2 xs hs
    by_cases hl : (xs.length : Int) = n
    · have e := lc_allH (mi := seqI v) (μ := [some v, some (.int n), none, none]) (i := 3) (e := e_is_row_3) (its_sq hs) h1 (fun x => .bl (isZ x)) fun x hx => by
        unfold e_is_row_3
        simp [is_integer_v (h2 x hx)]
      simp [isi_lt p.1, hs, len_sq hs, hl, seqK_sq hs, e, all_B]
    · simp [isi_lt p.1, hs, len_sq hs, hl]
theorem is_counts_v {h : MH} {v : MV} {n : Int} (p : plS h v) : f_is_counts [v, .int n] h = .ok (.bl (cntB h v n)) h := by
  unfold f_is_counts defM gc bodyM s_is_counts startM
  have er := is_row_v (n := n) p
  cases hs : sq h v with
  | none =>
    have e1 : rowB h v n = false := by unfold rowB; rw [hs]
    have e2 : cntB h v n = false := by unfold cntB; rw [hs]
    simp [er, e1, e2]
  | some xs =>
    obtain ⟨h1, h2⟩ := p.2 xs hs
    have e2 : cntB h v n = (rowB h v n && xs.all fun x => decide (0 ≤ iv x)) := by unfold cntB rowB; rw [hs]
    cases hl : rowB h v n with
    | true =>
      have hi : ∀ x ∈ xs, isZ x = true := fun x hx => by
        unfold rowB at hl
        rw [hs] at hl
        dsimp only at hl
        rw [Bool.and_eq_true, List.all_eq_true] at hl
        exact hl.2 x hx
      have e := lc_allH (mi := seqI v) (μ := [some v, some (.int n), none, none]) (i := 3) (e := e_is_counts_1) (its_sq hs) h1 (fun x => .bl (decide (0 ≤ iv x))) fun x hx => by
        have ex := isZ_iv (hi x hx)
        generalize iv x = i at ex ⊢
        subst ex
        unfold e_is_counts_1
        simp
      simp [er, seqK_sq hs, e, all_B, hl, e2]
    | false => simp [er, e2, hl]
/-- an entry of a row -/
def passB (h : MH) (v : MV) (many outs : Int) : Bool := match sq h v with
  | some [.int a, w] => decide (0 ≤ a) && decide (a < many) && cntB h w outs && ((sq h w).getD []).all fun x => decide (iv x ≤ 1000000000000)
  | _ => false
/-- .. all the way in -/
def plP (h : MH) (v : MV) : Prop := pl h v = true ∧ ∀ xs, sq h v = some xs → ∀ x ∈ xs, plS h x
theorem is_pass_v {h : MH} {v : MV} {many outs : Int} (p : plP h v) : f_is_pass [v, .int many, .int outs] h = .ok (.bl (passB h v many outs)) h := by
  unfold f_is_pass defM gc bodyM s_is_pass startM
  cases hs : sq h v with
  | none =>
    have e1 : passB h v many outs = false := by unfold passB; rw [hs]
    simp [isi_lt p.1, hs, e1]
  | some xs =>
    have hx := p.2 xs hs
    by_cases hl : (xs.length : Int) = 2
    · match xs, hl, hx, hs with
      | [a, w], hl, hx, hs =>
        have pa := hx a (by simp)
        have pw := hx w (by simp)
        have l2 := len_sq hs
        have i0 := ix_sq (i := 0) hs
        have i1 := ix_sq (i := 1) hs
        rw [at_0] at i0
        rw [at_1] at i1
        dsimp only at i0 i1
        cases ha : isZ a with
        | false =>
          have e1 : passB h v many outs = false := by
            unfold passB
            rw [hs]
            cases a <;> first | rfl | cases ha
          simp [isi_lt p.1, hs, e1, l2, i0, is_integer_v pa.1, ha]
        | true =>
          have ex := isZ_iv ha
          generalize iv a = i at ex
          subst ex
          have e1 : passB h v many outs = (decide (0 ≤ i) && decide (i < many) && cntB h w outs && ((sq h w).getD []).all fun x => decide (iv x ≤ 1000000000000)) := by
            unfold passB
            rw [hs]
          by_cases h1 : 0 ≤ i
          · by_cases h2 : i < many
            · cases h3 : cntB h w outs with
              | false => simp [isi_lt p.1, hs, e1, l2, i0, i1, h1, h2, h3, is_counts_v pw]
              | true =>
                cases hw : sq h w with
                | none =>
                  unfold cntB at h3
                  rw [hw] at h3
                  cases h3
                | some ws =>
                  have hi : ∀ x ∈ ws, isZ x = true := fun x hx => by
                    unfold cntB at h3
                    rw [hw] at h3
                    dsimp only at h3
                    rw [Bool.and_eq_true, Bool.and_eq_true, List.all_eq_true] at h3
                    exact h3.1.2 x hx
                  have e := lc_allH (mi := seqI w) (μ := [some v, some (.int many), some (.int outs), none, none]) (i := 4) (e := e_is_pass_5) (its_sq hw) (pw.2 ws hw).1 (fun x => .bl (decide (iv x ≤ 1000000000000))) fun x hx => by
                    have ex := isZ_iv (hi x hx)
                    generalize iv x = i at ex ⊢
                    subst ex
                    unfold e_is_pass_5
                    simp
                  simp [isi_lt p.1, hs, e1, l2, i0, i1, h1, h2, h3, is_counts_v pw, seqK_sq hw, hw, e, all_B]
            · simp [isi_lt p.1, hs, e1, l2, i0, i1, h1, h2]
          · simp [isi_lt p.1, hs, e1, l2, i0, i1, h1]
    · have e1 : passB h v many outs = false := by
        unfold passB
        rw [hs]
        split
        · rename_i e
          cases e
          exact absurd rfl hl
        · rfl
      simp [isi_lt p.1, hs, e1, len_sq hs, hl]
def rowOk (h : MH) (r : MV) (doors many outs : Int) : Bool := match sq h r with
  | some ps => decide ((ps.length : Int) = doors) && ps.all fun o => passB h o many outs
  | none => false
def rowsB (h : MH) (v : MV) (doors outs : Int) : Bool := match sq h v with
  | some rs => decide (1 ≤ (rs.length : Int)) && decide ((rs.length : Int) ≤ 400) && rs.all fun r => rowOk h r doors rs.length outs
  | none => false
def oneT (h : MH) (o : MV) : MV := match sq h o with
  | some [a, w] => .tup [a, .tup ((sq h w).getD [])]
  | _ => .non
def rowT (h : MH) (r : MV) : MV := .tup (((sq h r).getD []).map (oneT h))
def rowsT (h : MH) (v : MV) : MV := .tup (((sq h v).getD []).map (rowT h))
def plQ (h : MH) (r : MV) : Prop := pl h r = true ∧ ∀ ps, sq h r = some ps → ps.length < 1000000 ∧ ∀ o ∈ ps, plP h o
def plR (h : MH) (v : MV) : Prop := pl h v = true ∧ ∀ rs, sq h v = some rs → rs.length < 1000000 ∧ ∀ r ∈ rs, plQ h r
theorem need_rows_v {h : MH} {v : MV} {doors outs : Int} (p : plR h v) : f_need_rows [v, .int doors, .int outs] h = if rowsB h v doors outs then .ok (rowsT h v) h else .exc "BadPart" [.str "rows"] h := by
  unfold f_need_rows defM gc bodyM s_need_rows startM
  cases hs : sq h v with
  | none =>
    have e1 : rowsB h v doors outs = false := by unfold rowsB; rw [hs]
    simp [isi_lt p.1, hs, e1]
  | some rs =>
    obtain ⟨hn, hr⟩ := p.2 rs hs
    by_cases h1 : 1 ≤ (rs.length : Int)
    · by_cases h2 : (rs.length : Int) ≤ 400
      · have e1 : rowsB h v doors outs = rs.all fun r => rowOk h r doors rs.length outs := by
          unfold rowsB
          rw [hs]
          dsimp only
          rw [decide_eq_true h1, decide_eq_true h2]
          rfl
        obtain ⟨μ1, ef⟩ := for_look (cl := [3]) (g := nameG 3) (body := b_need_rows_3) (μ := [some v, some (.int doors), some (.int outs), none, none, none]) (its_sq hs) hn (fun r => rowOk h r doors rs.length outs) "BadPart" [.str "rows"] fun r hx => by
          have pr := hr r hx
          unfold b_need_rows_3 rowOk
          cases hq : sq h r with
          | none => exact ⟨[some v, some (.int doors), some (.int outs), some r, none, none], by simp [isi_lt pr.1, hq], by simp⟩
          | some ps =>
            obtain ⟨hm, hp⟩ := pr.2 ps hq
            by_cases h3 : (ps.length : Int) = doors
            · have e := lc_allH (mi := seqI r) (μ := [some v, some (.int doors), some (.int outs), some r, none, none]) (i := 5) (e := e_need_rows_6) (its_sq hq) hm (fun o => .bl (passB h o rs.length outs)) fun o ho => by
                unfold e_need_rows_6
                simp [is_pass_v (hp o ho), len_sq hs]
              cases h4 : ps.all fun o => passB h o rs.length outs with
              | true => exact ⟨[some v, some (.int doors), some (.int outs), some r, none, none], by simp [isi_lt pr.1, hq, h3, len_sq hq, seqK_sq hq, e, all_B, h4], by simp⟩
              | false => exact ⟨[some v, some (.int doors), some (.int outs), some r, none, none], by simp [isi_lt pr.1, hq, h3, len_sq hq, seqK_sq hq, e, all_B, h4], by simp⟩
            · exact ⟨[some v, some (.int doors), some (.int outs), some r, none, none], by simp [isi_lt pr.1, hq, h3, len_sq hq], by simp⟩
        cases hb : rowsB h v doors outs with
        | false =>
          rw [e1] at hb
          rw [hb] at ef
          simp at ef
          simp [isi_lt p.1, hs, h1, h2, len_sq hs, seqK_sq hs, ef]
        | true =>
          rw [e1] at hb
          rw [hb] at ef
          simp at ef
          have hb' := List.all_eq_true.mp hb
          have e := lc_allH (mi := seqI v) (μ := [some v, some (.int doors), some (.int outs), none, none, none]) (i := 3) (e := e_need_rows_8_2) (its_sq hs) hn (rowT h) fun r hx => by
            have pr := hr r hx
            have br := hb' r hx
            unfold rowOk at br
            unfold e_need_rows_8_2
            cases hq : sq h r with
            | none =>
              rw [hq] at br
              cases br
            | some ps =>
              rw [hq] at br
              dsimp only at br
              rw [Bool.and_eq_true] at br
              have bp := List.all_eq_true.mp br.2
              obtain ⟨hm, hp⟩ := pr.2 ps hq
              have e := lc_allH (mi := seqI r) (μ := [some v, some (.int doors), some (.int outs), some r, none, none]) (i := 5) (e := e_need_rows_8) (its_sq hq) hm (oneT h) fun o ho => by
                have b1 := bp o ho
                unfold passB at b1
                unfold e_need_rows_8 oneT
                split at b1
                · rename_i a w eo
                  have i0 := ix_sq (i := 0) eo
                  have i1 := ix_sq (i := 1) eo
                  rw [at_0] at i0
                  rw [at_1] at i1
                  dsimp only at i0 i1
                  cases hw : sq h w with
                  | none =>
                    unfold cntB at b1
                    rw [hw] at b1
                    simp at b1
                  | some ws => simp [eo, i0, i1, tup_sq hw, hw]
                · cases b1
              unfold rowT
              simp [seqK_sq hq, e, hq]
          unfold rowsT
          simp [isi_lt p.1, hs, h1, h2, len_sq hs, seqK_sq hs, ef, e]
      · have e1 : rowsB h v doors outs = false := by
          unfold rowsB
          rw [hs]
          dsimp only
          rw [decide_eq_false h2, Bool.and_false]
          rfl
        simp [isi_lt p.1, hs, e1, len_sq hs, h1, h2]
    · have e1 : rowsB h v doors outs = false := by
        unfold rowsB
        rw [hs]
        dsimp only
        rw [decide_eq_false h1]
        rfl
      simp [isi_lt p.1, hs, e1, len_sq hs, h1]
section
variable {h t : MH} {v r : MV} {n many outs doors : Int}
theorem plS_mono (p : plS h v) : plS (h ++ t) v := ⟨pl_mono p.1, fun xs e => by
  rw [sq_mono p.1] at e
  exact ⟨(p.2 xs e).1, fun x m => pl_mono ((p.2 xs e).2 x m)⟩⟩
theorem cntB_mono (p : pl h v = true) : cntB (h ++ t) v n = cntB h v n := by unfold cntB; rw [sq_mono p]
theorem plP_mono (p : plP h v) : plP (h ++ t) v := ⟨pl_mono p.1, fun xs e x m => by
  rw [sq_mono p.1] at e
  exact plS_mono (p.2 xs e x m)⟩
theorem passB_mono (p : plP h v) : passB (h ++ t) v many outs = passB h v many outs := by
  unfold passB
  rw [sq_mono p.1]
  split
  · rename_i a w e
    have q := (p.2 _ e w (by simp)).1
    rw [cntB_mono q, sq_mono q]
  · rfl
theorem oneT_mono (p : plP h v) : oneT (h ++ t) v = oneT h v := by
  unfold oneT
  rw [sq_mono p.1]
  split
  · rename_i a w e
    have q := (p.2 _ e w (by simp)).1
    rw [sq_mono q]
  · rfl
theorem plQ_mono (p : plQ h v) : plQ (h ++ t) v := ⟨pl_mono p.1, fun xs e => by
  rw [sq_mono p.1] at e
  exact ⟨(p.2 xs e).1, fun x m => plP_mono ((p.2 xs e).2 x m)⟩⟩
theorem rowOk_mono (p : plQ h v) : rowOk (h ++ t) v doors many outs = rowOk h v doors many outs := by
  unfold rowOk
  rw [sq_mono p.1]
  split
  · rename_i ps e
    rw [all_eq fun o m => passB_mono ((p.2 ps e).2 o m)]
  · rfl
theorem rowT_mono (p : plQ h v) : rowT (h ++ t) v = rowT h v := by
  unfold rowT
  rw [sq_mono p.1]
  cases e : sq h v with
  | none => rfl
  | some ps => exact congrArg MV.tup (map_eq fun o m => oneT_mono ((p.2 ps e).2 o m))
theorem plR_mono (p : plR h v) : plR (h ++ t) v := ⟨pl_mono p.1, fun xs e => by
  rw [sq_mono p.1] at e
  exact ⟨(p.2 xs e).1, fun x m => plQ_mono ((p.2 xs e).2 x m)⟩⟩
theorem rowsB_mono (p : plR h v) : rowsB (h ++ t) v doors outs = rowsB h v doors outs := by
  unfold rowsB
  rw [sq_mono p.1]
  split
  · rename_i ps e
    rw [all_eq fun o m => rowOk_mono ((p.2 ps e).2 o m)]
  · rfl
theorem rowsT_mono (p : plR h v) : rowsT (h ++ t) v = rowsT h v := by
  unfold rowsT
  rw [sq_mono p.1]
  cases e : sq h v with
  | none => rfl
  | some ps => exact congrArg MV.tup (map_eq fun o m => rowT_mono ((p.2 ps e).2 o m))
end
theorem oneT_rb {h : MH} {o : MV} {many outs : Int} {n : Nat} (b : passB h o many outs = true) : rb n (oneT h o) = true := by
  unfold passB at b
  unfold oneT
  split at b
  · rename_i a w e
    rw [e]
    refine rb_tup fun x m => ?_
    simp at m
    rcases m with rfl | rfl
    · rfl
    · refine rb_tup fun x m => ?_
      unfold cntB at b
      cases hw : sq h w with
      | none =>
        rw [hw] at m
        cases m
      | some ws =>
        rw [hw] at m b
        dsimp only at b
        simp only [Bool.and_eq_true, List.all_eq_true] at b
        exact rb_isZ (b.1.2.1.2 x m)
  · cases b
theorem rowsT_rb {h : MH} {r : MV} {doors outs : Int} {n : Nat} (b : rowsB h r doors outs = true) : rb n (rowsT h r) = true := by
  unfold rowsB at b
  unfold rowsT
  refine rb_tup fun x m => ?_
  obtain ⟨y, my, rfl⟩ := List.mem_map.mp m
  cases hr : sq h r with
  | none =>
    rw [hr] at b
    cases b
  | some rs =>
    rw [hr] at b my
    dsimp only at b
    simp only [Bool.and_eq_true, List.all_eq_true] at b
    have b1 := b.2 y my
    unfold rowOk at b1
    unfold rowT
    refine rb_tup fun x m => ?_
    obtain ⟨z, mz, rfl⟩ := List.mem_map.mp m
    cases hy : sq h y with
    | none =>
      rw [hy] at b1
      cases b1
    | some ys =>
      rw [hy] at b1 mz
      dsimp only at b1
      simp only [Bool.and_eq_true, List.all_eq_true] at b1
      exact oneT_rb (b1.2 z mz)
/-- a number that need_integer lets pass -/
def okI (v : MV) (a b : Int) : Bool := isZ v && decide (a ≤ iv v) && decide (iv v ≤ b)
def partR (h : MH) (d o r : MV) : R MV := if okI d 1 4 then (if okI o 0 6 then (if rowsB h r (iv d) (iv o) then .ok (.ins "Part" [d, o, rowsT h r, .int ((sq h r).getD []).length]) h else .exc "BadPart" [.str "rows"] h) else .exc "BadNumber" [.str "outs"] h) else .exc "BadNumber" [.str "doors"] h
theorem need_ok {h : MH} {v : MV} {a b : Int} (p : pl h v = true) : f_need_integer [.str x, v, .int a, .int b] h = if okI v a b then .ok v h else .exc "BadNumber" [.str x] h := by
  rw [need_integer_v p (.inr rfl)]
  rfl
theorem init_v {h : MH} {d o r : MV} (w : wf h = true) (pd : pl h d = true) (po : pl h o = true) (pr : okI d 1 4 = true → okI o 0 6 = true → plR h r) : gcR h.length (makeM cfg.F "Part" f_Part___init__ [d, o, r] h) = partR h d o r := by
  unfold makeM f_Part___init__ defM gc bodyM s_Part___init__ startM partR
  have n1 := need_ok (x := "doors") (a := 1) (b := 4) (pl_mono (t := [.ins "Part" []]) pd)
  by_cases h1 : okI d 1 4 = true
  · rw [h1] at n1
    have n2 := need_ok (x := "outs") (a := 0) (b := 6) (pl_mono (t := [.ins "Part" [("doors", d)]]) po)
    by_cases h2 : okI o 0 6 = true
    · rw [h2] at n2
      have p := pr h1 h2
      have ed : d = .int (iv d) := isZ_iv (by unfold okI at h1; simp at h1; exact h1.1.1)
      have eo : o = .int (iv o) := isZ_iv (by unfold okI at h2; simp at h2; exact h2.1.1)
      have n3 := need_rows_v (doors := iv d) (outs := iv o) (plR_mono (t := [.ins "Part" [("doors", d), ("outs", o)]]) p)
      rw [rowsB_mono p, rowsT_mono p, ← ed, ← eo] at n3
      have n4 : ∀ h', lenM [rowsT h r] h' = .ok (.int ((sq h r).getD []).length) h' := fun h' => by unfold rowsT; rw [len_t, List.length_map]
      by_cases h3 : rowsB h r (iv d) (iv o) = true
      · simp [n1, h1, n2, h2, n3, h3, n4]
        refine gc_app w ?_
        refine rbs_all fun x m => ?_
        simp at m
        rcases m with rfl | rfl | rfl | rfl
        · exact rb_isZ (by rw [ed]; rfl)
        · exact rb_isZ (by rw [eo]; rfl)
        · exact rowsT_rb h3
        · rfl
      · simp [n1, h1, n2, h2, n3, h3, n4]
        refine gcx_app w ?_
        rfl
    · simp [n1, h1, n2, h2]
      refine gcx_app w ?_
      rfl
  · simp [n1, h1]
    refine gcx_app w ?_
    rfl
end K03

set_option Elab.async false
set_option linter.all false
set_option maxRecDepth 100000
set_option maxHeartbeats 4000000
namespace K03
open PySem PySem.Spec PyProof.Rows L2 DL M
open PySem.W (Datum Tup)
theorem draw_ok {cells : List Int} {a l many : Int} {t : MH} (h0 : 0 ≤ a) (h1 : a ≤ 1048576) (hm : 1 ≤ many) (hb : many.natAbs.log2 < 9000) : ∃ r a' l', f__law_draw [.ref 0, .int many] (pnO cells a l :: t) = .ok (.int r) (pnO cells a' l' :: t) ∧ 0 ≤ r ∧ r < many ∧ a ≤ a' ∧ a' ≤ a + 1 := by
  have gcl : ∀ v a' l', gcR (t.length + 1) (.ok v (pnO cells a' l' :: t)) = .ok v (pnO cells a' l' :: t) := fun v a' l' => gc_ok (h := pnO cells a l :: t) (by simp)
  have fm : ∀ x : Int, 0 ≤ x.fmod many ∧ x.fmod many < many := fun x => ⟨Int.fmod_nonneg_of_pos _ (by omega), Int.fmod_lt_of_pos _ (by omega)⟩
  have hd : ∀ x : Int, divOk x many = true := fun x => by
    unfold divOk
    simp [hb]
    omega
  have m0 : many ≠ 0 := by omega
  have d16 : ∀ x : Int, divOk x 16 = true := fun x => by
    unfold divOk
    decide
  have ml : ∀ x y : Int, x.natAbs < 18446744073709551616 → mulOk x y = true := fun x y hx => by
    unfold mulOk
    simp [hx]
  have k1 : mulOk 8117 a = true := ml _ _ (by decide)
  have k2 : ∀ x, mulOk 2 x = true := fun x => ml _ _ (by decide)
  have k3 : mulOk (8117 * a) a = true := ml _ _ (by omega)
  have p0 : powOk 10 18 = true := by decide
  have f1 : ∀ c : Int, 0 ≤ c.fmod 2147483549 ∧ c.fmod 2147483549 < 2147483549 := fun c => ⟨Int.fmod_nonneg_of_pos _ (by omega), Int.fmod_lt_of_pos _ (by omega)⟩
  have f2 : ∀ c : Int, 0 ≤ c.fmod 2147483629 ∧ c.fmod 2147483629 < 2147483629 := fun c => ⟨Int.fmod_nonneg_of_pos _ (by omega), Int.fmod_lt_of_pos _ (by omega)⟩
  have pk : ∀ x : Int, x.natAbs < 2 ^ 64 → powOk x 3 = true ∧ powOk x 5 = true := fun x hx => by
    unfold powOk
    simp [hx]
  have p1 : ∀ c : Int, powOk (c.fmod 2147483549 + 8117 * a + 467) 3 = true := fun c => (pk _ (by have := f1 c; omega)).1
  have k4 : ∀ c : Int, mulOk (c.fmod 2147483629) (2 * a + 137) = true := fun c => ml _ _ (by have := f2 c; omega)
  have p2 : ∀ c : Int, powOk (c.fmod 2147483629 * (2 * a + 137) + 8117 * a * a + 83) 5 = true := fun c => (pk _ (by
    have h2 := f2 c
    have e1 : c.fmod 2147483629 * (2 * a + 137) ≤ 2147483629 * (2 * 1048576 + 137) := Int.mul_le_mul (by omega) (by omega) (by omega) (by omega)
    have e2 : 0 ≤ c.fmod 2147483629 * (2 * a + 137) := Int.mul_nonneg (by omega) (by omega)
    have e3 : 8117 * a * a ≤ (8117 * 1048576) * 1048576 := Int.mul_le_mul (by omega) (by omega) (by omega) (by omega)
    have e4 : 0 ≤ 8117 * a * a := Int.mul_nonneg (by omega) (by omega)
    omega)).2
  suffices h : ∃ (x : Int) (a' l' : Int), f__law_draw [.ref 0, .int many] (pnO cells a l :: t) = .ok (.int (x.fmod many)) (pnO cells a' l' :: t) ∧ a ≤ a' ∧ a' ≤ a + 1 by
    obtain ⟨x, a', l', e, h2⟩ := h
    exact ⟨x.fmod many, a', l', e, (fm x).1, (fm x).2, h2⟩
  let fin : Int → Int := fun c => (((((c.fmod 2147483549 + 8117 * a + 467) ^ 3).fmod 2147483629 * (2 * a + 137) + 8117 * a * a + 83) ^ 5).fmod 2147483563).fdiv 16
  unfold f__law_draw defM gc bodyM s__law_draw startM
  by_cases hl : 0 < l
  · refine ⟨l, a, l.fdiv many, ?_, by omega, by omega⟩
    simp [hl, m0, hd, gcl]
  · by_cases hc : cells = []
    · subst hc
      have na : ¬ a < 0 := by omega
      refine ⟨fin (8117 * a + 467), a + 1, l, ?_, by omega, by omega⟩
      simp [hl, m0, hd, gcl, k1, k2, k3, k4, p0, p1, p2, d16, neK_l00, na, fin]
    · have hn : (0 : Int) < cells.length := by
        have := List.length_pos_iff.mpr hc
        omega
      have hn' : (cells.length : Int) ≠ 0 := by omega
      obtain ⟨c, ec⟩ := cell_at (cells := cells) (x := a.fmod cells.length) (Int.fmod_nonneg_of_pos _ hn) (Int.fmod_lt_of_pos _ hn)
      by_cases hg1 : a < cells.length
      · by_cases hg2 : (1000000000000000000 : Int) ≤ (if c < 0 then -c else c)
        · refine ⟨2 * ((if c < 0 then -c else c) - 1000000000000000000) + (if c < 0 then 1 else 0), a + 1, (2 * ((if c < 0 then -c else c) - 1000000000000000000) + (if c < 0 then 1 else 0)).fdiv many, ?_, by omega, by omega⟩
          simp [hl, m0, hd, gcl, k1, k2, k3, k4, p0, p1, p2, d16, neK_l0, hc, hn', ec, hg1, hg2]
        · refine ⟨fin c, a + 1, l, ?_, by omega, by omega⟩
          simp [hl, m0, hd, gcl, k1, k2, k3, k4, p0, p1, p2, d16, neK_l0, hc, hn', ec, hg1, hg2, fin]
      · refine ⟨fin c, a + 1, l, ?_, by omega, by omega⟩
        simp [hl, m0, hd, gcl, k1, k2, k3, k4, p0, p1, p2, d16, neK_l0, hc, hn', ec, hg1, fin]
theorem draw_nat {cells : List Int} {a l : Int} {many : Nat} {t : MH} (h0 : 0 ≤ a) (h1 : a ≤ 1048576) (hm : 1 ≤ many) (hb : many ≤ 1000000000000000000) : ∃ (r : Nat) (a' l' : Int), f__law_draw [.ref 0, .int many] (pnO cells a l :: t) = .ok (.int r) (pnO cells a' l' :: t) ∧ r < many ∧ a ≤ a' ∧ a' ≤ a + 1 := by
  obtain ⟨r, a', l', e, r0, r1, a0, a1⟩ := draw_ok (cells := cells) (l := l) (t := t) h0 h1 (many := many) (by omega) (by
    rw [Int.natAbs_natCast]
    exact log_small hm hb)
  exact ⟨r.toNat, a', l', by rw [e, Int.toNat_of_nonneg r0], by omega, a0, a1⟩
theorem pick_ok {cells : List Int} {a l : Int} {t : MH} {xs : List MV} (h0 : 0 ≤ a) (h1 : a ≤ 1048576) (hx : xs ≠ []) (hn : xs.length ≤ 1000000) : ∃ x a' l', f__law_pick [.ref 0, .lst xs] (pnO cells a l :: t) = .ok x (pnO cells a' l' :: t) ∧ x ∈ xs ∧ a ≤ a' ∧ a' ≤ a + 1 := by
  have hl : 1 ≤ xs.length := List.length_pos_iff.mpr hx
  obtain ⟨r, a', l', e, r1, a0, a1⟩ := draw_nat (cells := cells) (l := l) (t := t) h0 h1 hl (by omega)
  obtain ⟨x, ex⟩ : ∃ x, xs[r]? = some x := ⟨_, List.getElem?_eq_getElem (by omega)⟩
  refine ⟨x, a', l', ?_, List.mem_of_getElem? ex, a0, a1⟩
  unfold f__law_pick defM gc bodyM s__law_pick startM
  simp [e, at_nat, ex]
  exact gc_len (by simp)
/-! the data -/
abbrev Row := List (Int × List Int)
def oneL (p : Int × List Int) : MV := .lst [.int p.1, .lst (p.2.map .int)]
def rowL (r : Row) : MV := .lst (r.map oneL)
def rowsL (rs : List Row) : MV := .lst (rs.map rowL)
def oneT' (p : Int × List Int) : MV := .tup [.int p.1, .tup (p.2.map .int)]
def rowT' (r : Row) : MV := .tup (r.map oneT')
def rowsT' (rs : List Row) : MV := .tup (rs.map rowT')
structure GOne (many outs : Nat) (p : Int × List Int) : Prop where
  h0 : 0 ≤ p.1
  h1 : p.1 < many
  hl : p.2.length = outs
  hv : ∀ x ∈ p.2, 0 ≤ x ∧ x ≤ 1000000000000
structure GRow (doors many outs : Nat) (r : Row) : Prop where
  hl : r.length = doors
  hv : ∀ p ∈ r, GOne many outs p
structure GRows (doors outs : Nat) (rs : List Row) : Prop where
  h1 : 1 ≤ rs.length
  h4 : rs.length ≤ 400
  hv : ∀ r ∈ rs, GRow doors rs.length outs r
theorem rows_ok {cells : List Int} {a l : Int} {doors outs many : Nat} {t : MH} (h0 : 0 ≤ a) (h1 : a ≤ 1000000) (hd : doors ≤ 4) (ho : outs ≤ 6) (hm1 : 1 ≤ many) (hm : many ≤ 12) :
    ∃ rs a' l', f__law_rows [.ref 0, .int doors, .int outs, .int many] (pnO cells a l :: t) = .ok (rowsL rs) (pnO cells a' l' :: t) ∧ rs.length = many ∧ GRows doors outs rs ∧ a ≤ a' ∧ a' ≤ a + 400 := by
  obtain ⟨sz, a1, l1, e1, m1, b1, b2⟩ := pick_ok (cells := cells) (l := l) (t := t) (xs := [.int 2, .int 4, .int 100, .int 1000000000001]) h0 (by omega) (by simp) (by simp)
  obtain ⟨size, rfl, hs1, hs2⟩ : ∃ s : Nat, sz = .int s ∧ 1 ≤ s ∧ s ≤ 1000000000001 := by
    simp at m1
    rcases m1 with rfl | rfl | rfl | rfl
    · exact ⟨2, rfl, by omega, by omega⟩
    · exact ⟨4, rfl, by omega, by omega⟩
    · exact ⟨100, rfl, by omega, by omega⟩
    · exact ⟨1000000000001, rfl, by omega, by omega⟩
  have d3 : ∀ x y a1 l1, 0 ≤ a1 → a1 ≤ 1048000 → ∃ z a2 l2, e__law_rows_2_2 [some (.ref 0), some (.int doors), some (.int outs), some (.int many), some (.int size), none, x, y, none] (pnO cells a1 l1 :: t) = .ok (oneL z) (pnO cells a2 l2 :: t) ∧ GOne many outs z ∧ a1 ≤ a2 ∧ a2 ≤ a1 + 7 := by
    intro x y a1 l1 p0 p1
    obtain ⟨r, a2, l2, e2, r1, q0, q1⟩ := draw_nat (cells := cells) (l := l1) (t := t) p0 (by omega) hm1 (by omega)
    obtain ⟨ws, a3, l3, e3, w1, w2, w3, w4⟩ := lc_pen (cells := cells) (a := a2) (l := l2) (th := t) (μ := [some (.ref 0), some (.int doors), some (.int outs), some (.int many), some (.int size), none, x, y, none]) (i := 8) (e := e__law_rows_2) (its_rng 0 outs) (by rw [rgs_len]; omega) MV.int (fun x => 0 ≤ x ∧ x ≤ 1000000000000) 1 1048576 (by omega) (by rw [rgs_len]; omega) fun v _ a4 l4 s0 s1 => by
      obtain ⟨r, a5, l5, e5, r1, q0, q1⟩ := draw_nat (cells := cells) (a := a4) (l := l4) (t := t) (by omega) (by omega) hs1 (by omega)
      refine ⟨r, a5, l5, ?_, ⟨by omega, by omega⟩, q0, by omega⟩
      unfold e__law_rows_2
      simp [e5]
    rw [rgs_len] at w1 w4
    refine ⟨(r, ws), a3, l3, ?_, ⟨by simp, by simp; omega, w1, w2⟩, by omega, by omega⟩
    unfold e__law_rows_2_2 oneL
    simp [e2, rng1K_n (show outs ≤ 1000000 by omega), e3]
  have d2 : ∀ x a1 l1, 0 ≤ a1 → a1 ≤ 1047000 → ∃ z a2 l2, e__law_rows_2_3 [some (.ref 0), some (.int doors), some (.int outs), some (.int many), some (.int size), none, x, none, none] (pnO cells a1 l1 :: t) = .ok (rowL z) (pnO cells a2 l2 :: t) ∧ GRow doors many outs z ∧ a1 ≤ a2 ∧ a2 ≤ a1 + 28 := by
    intro x a1 l1 p0 p1
    obtain ⟨ws, a3, l3, e3, w1, w2, w3, w4⟩ := lc_pen (cells := cells) (a := a1) (l := l1) (th := t) (μ := [some (.ref 0), some (.int doors), some (.int outs), some (.int many), some (.int size), none, x, none, none]) (i := 7) (e := e__law_rows_2_2) (its_rng 0 doors) (by rw [rgs_len]; omega) oneL (GOne many outs) 7 1048000 (by omega) (by rw [rgs_len]; omega) fun v _ a4 l4 s0 s1 => d3 x (some v) a4 l4 (by omega) (by omega)
    rw [rgs_len] at w1 w4
    refine ⟨ws, a3, l3, ?_, ⟨w1, w2⟩, by omega, by omega⟩
    unfold e__law_rows_2_3 rowL
    simp [rng1K_n (show doors ≤ 1000000 by omega), e3]
  obtain ⟨ws, a3, l3, e3, w1, w2, w3, w4⟩ := lc_pen (cells := cells) (a := a1) (l := l1) (th := t) (μ := [some (.ref 0), some (.int doors), some (.int outs), some (.int many), some (.int size), none, none, none, none]) (i := 6) (e := e__law_rows_2_3) (its_rng 0 many) (by rw [rgs_len]; omega) rowL (GRow doors many outs) 28 1047000 (by omega) (by rw [rgs_len]; omega) fun v _ a4 l4 s0 s1 => d2 (some v) a4 l4 (by omega) (by omega)
  rw [rgs_len] at w1 w4
  refine ⟨ws, a3, l3, ?_, w1, ⟨by omega, by omega, by rw [w1]; exact w2⟩, by omega, by omega⟩
  unfold f__law_rows defM gc bodyM s__law_rows startM rowsL
  simp [show powOk 10 12 = true by decide, e1, rng1K_n (show many ≤ 1000000 by omega), e3]
  exact gc_len (by simp)
end K03

set_option Elab.async false
set_option linter.all false
set_option maxRecDepth 100000
set_option maxHeartbeats 4000000
namespace K03
open PySem PySem.Spec PyProof.Rows L2 DL M
open PySem.W (Datum Tup)
/-! trees -/
theorem pl_tree {h : MH} {v : MV} (p : pt v = true) : plR h v := by
  have s1 : ∀ {v : MV}, pt v = true → plS h v := fun p => ⟨pt_pl h p, fun xs e => ⟨(pt_sq p e).1, fun x m => pt_pl h ((pt_sq p e).2 x m)⟩⟩
  have s2 : ∀ {v : MV}, pt v = true → plP h v := fun p => ⟨pt_pl h p, fun xs e x m => s1 ((pt_sq p e).2 x m)⟩
  have s3 : ∀ {v : MV}, pt v = true → plQ h v := fun p => ⟨pt_pl h p, fun xs e => ⟨(pt_sq p e).1, fun x m => s2 ((pt_sq p e).2 x m)⟩⟩
  exact ⟨pt_pl h p, fun xs e => ⟨(pt_sq p e).1, fun x m => s3 ((pt_sq p e).2 x m)⟩⟩
section
variable {h : MH} {doors outs many : Nat} {rs : List Row}
theorem ints_cnt {xs : List Int} (hl : xs.length = outs) (hv : ∀ x ∈ xs, 0 ≤ x ∧ x ≤ 1000000000000) {w : MV} (hw : sq h w = some (xs.map MV.int)) : cntB h w outs = true ∧ (((sq h w).getD []).all fun x => decide (iv x ≤ 1000000000000)) = true := by
  unfold cntB
  rw [hw]
  constructor
  · simp only [List.length_map, hl, List.all_map, Bool.and_eq_true, decide_eq_true_iff, List.all_eq_true]
    exact ⟨⟨trivial, fun x _ => rfl⟩, fun x m => by simpa using (hv x m).1⟩
  · rw [Option.getD_some, List.all_map, List.all_eq_true]
    exact fun x m => by simpa using (hv x m).2
/-- an entry's two forms -/
def isOne (h : MH) (v : MV) (p : Int × List Int) : Prop := ∃ w, sq h v = some [.int p.1, w] ∧ sq h w = some (p.2.map MV.int)
theorem one_pass {v : MV} {p : Int × List Int} (e : isOne h v p) (g : GOne many outs p) : passB h v many outs = true ∧ oneT h v = oneT' p := by
  obtain ⟨w, e1, e2⟩ := e
  obtain ⟨c1, c2⟩ := ints_cnt g.hl g.hv e2
  unfold passB oneT oneT'
  rw [e1]
  refine ⟨?_, ?_⟩
  · dsimp only
    rw [c1, c2, decide_eq_true g.h0, decide_eq_true g.h1]
    rfl
  · dsimp only
    rw [e2]
    rfl
def isRow (h : MH) (v : MV) (r : Row) : Prop := ∃ os, sq h v = some os ∧ os.length = r.length ∧ ∀ (i : Nat) o p, os[i]? = some o → r[i]? = some p → isOne h o p
def isRows (h : MH) (v : MV) (rs : List Row) : Prop := ∃ os, sq h v = some os ∧ os.length = rs.length ∧ ∀ (i : Nat) o p, os[i]? = some o → rs[i]? = some p → isRow h o p
theorem pair_mem {α β : Type} {xs : List α} {ys : List β} (e : xs.length = ys.length) {x : α} (m : x ∈ xs) : ∃ (i : Nat) (y : β), xs[i]? = some x ∧ ys[i]? = some y := by
  obtain ⟨i, hi⟩ := List.mem_iff_getElem?.mp m
  have := (List.getElem?_eq_some_iff.mp hi).1
  exact ⟨i, ys[i]'(by omega), hi, List.getElem?_eq_getElem _⟩
theorem map_pair {α β γ : Type} {xs : List α} {ys : List β} {f : α → γ} {g : β → γ} (e : xs.length = ys.length) (h : ∀ (i : Nat) x y, xs[i]? = some x → ys[i]? = some y → f x = g y) : xs.map f = ys.map g := by
  apply List.ext_getElem?
  intro i
  rw [List.getElem?_map, List.getElem?_map]
  rcases Nat.lt_or_ge i xs.length with q | q
  · have q2 : i < ys.length := by omega
    rw [List.getElem?_eq_getElem q, List.getElem?_eq_getElem q2]
    exact congrArg some (h i _ _ (List.getElem?_eq_getElem q) (List.getElem?_eq_getElem q2))
  · rw [List.getElem?_eq_none_iff.mpr q, List.getElem?_eq_none_iff.mpr (by omega)]
    rfl
theorem row_ok {v : MV} {r : Row} (e : isRow h v r) (g : GRow doors many outs r) : rowOk h v doors many outs = true ∧ rowT h v = rowT' r := by
  obtain ⟨os, e1, e2, e3⟩ := e
  unfold rowOk rowT rowT'
  rw [e1]
  constructor
  · dsimp only
    rw [e2, g.hl]
    simp only [decide_true, Bool.true_and, List.all_eq_true]
    intro o m
    obtain ⟨i, p, q1, q2⟩ := pair_mem e2 m
    exact (one_pass (e3 i o p q1 q2) (g.hv p (List.mem_of_getElem? q2))).1
  · exact congrArg MV.tup (map_pair e2 fun i o p q1 q2 => (one_pass (e3 i o p q1 q2) (g.hv p (List.mem_of_getElem? q2))).2)
theorem rows_good {v : MV} (e : isRows h v rs) (g : GRows doors outs rs) : rowsB h v doors outs = true ∧ rowsT h v = rowsT' rs ∧ ((sq h v).getD []).length = rs.length := by
  obtain ⟨os, e1, e2, e3⟩ := e
  unfold rowsB rowsT rowsT'
  rw [e1]
  have h1 := g.h1
  have h4 := g.h4
  refine ⟨?_, ?_, e2⟩
  · dsimp only
    rw [e2, decide_eq_true (by omega), decide_eq_true (by omega)]
    simp only [Bool.true_and, List.all_eq_true]
    intro o m
    obtain ⟨i, p, q1, q2⟩ := pair_mem e2 m
    exact (row_ok (e3 i o p q1 q2) (g.hv p (List.mem_of_getElem? q2))).1
  · exact congrArg MV.tup (map_pair e2 fun i o p q1 q2 => (row_ok (e3 i o p q1 q2) (g.hv p (List.mem_of_getElem? q2))).2)
theorem map_at {α β : Type} {xs : List α} {f : α → β} {i : Nat} {o : β} {p : α} (q1 : (xs.map f)[i]? = some o) (q2 : xs[i]? = some p) : o = f p := by
  rw [List.getElem?_map, q2] at q1
  exact (Option.some.inj q1).symm
theorem isRows_L : isRows h (rowsL rs) rs := ⟨_, rfl, List.length_map .., fun i o p q1 q2 => by
  rw [map_at q1 q2]
  refine ⟨_, rfl, List.length_map .., fun i o p q1 q2 => ?_⟩
  rw [map_at q1 q2]
  exact ⟨_, rfl, rfl⟩⟩
theorem isRows_T : isRows h (rowsT' rs) rs := ⟨_, rfl, List.length_map .., fun i o p q1 q2 => by
  rw [map_at q1 q2]
  refine ⟨_, rfl, List.length_map .., fun i o p q1 q2 => ?_⟩
  rw [map_at q1 q2]
  exact ⟨_, rfl, rfl⟩⟩
theorem pt_oneL {p : Int × List Int} (hl : p.2.length < 1000000) : pt (oneL p) = true := pt_lst (by simp) (by
  intro x m
  simp at m
  rcases m with rfl | rfl
  · rfl
  · exact pt_lst (by rw [List.length_map]; exact hl) pt_ints)
theorem pt_oneT {p : Int × List Int} (hl : p.2.length < 1000000) : pt (oneT' p) = true := pt_tup (by simp) (by
  intro x m
  simp at m
  rcases m with rfl | rfl
  · rfl
  · exact pt_tup (by rw [List.length_map]; exact hl) pt_ints)
theorem pt_rowL {r : Row} (hd : doors ≤ 10) (ho : outs ≤ 10) (g : GRow doors many outs r) : pt (rowL r) = true := pt_lst (by rw [List.length_map, g.hl]; omega) fun x m => by
  obtain ⟨p, mp, rfl⟩ := List.mem_map.mp m
  exact pt_oneL (by rw [(g.hv p mp).hl]; omega)
theorem pt_rowsL (hd : doors ≤ 10) (ho : outs ≤ 10) (g : GRows doors outs rs) : pt (rowsL rs) = true := pt_lst (by rw [List.length_map]; have := g.h4; omega) fun x m => by
  obtain ⟨r, mr, rfl⟩ := List.mem_map.mp m
  exact pt_rowL hd ho (g.hv r mr)
theorem pt_rowsT (hd : doors ≤ 10) (ho : outs ≤ 10) (g : GRows doors outs rs) : pt (rowsT' rs) = true := pt_tup (by rw [List.length_map]; have := g.h4; omega) fun x m => by
  obtain ⟨r, mr, rfl⟩ := List.mem_map.mp m
  have g := g.hv r mr
  exact pt_tup (by rw [List.length_map, g.hl]; omega) fun x m => by
    obtain ⟨p, mp, rfl⟩ := List.mem_map.mp m
    exact pt_oneT (by rw [(g.hv p mp).hl]; omega)
end
theorem tupled_ok {h : MH} {doors outs : Nat} {rs : List Row} (g : GRows doors outs rs) (hd : doors ≤ 10) : f__law_tupled [rowsL rs] h = .ok (rowsT' rs) h := by
  have h4 := g.h4
  unfold f__law_tupled defM gc bodyM s__law_tupled startM
  have e : ∀ r ∈ rs, e__law_tupled_1_2 [some (rowsL rs), none, some (rowL r), none] h = .ok (rowT' r) h := fun r m => by
    have e := lc_mapD (mi := seqI (rowL r)) (as := r) (g := oneL) (f := oneT') (h := h) (μ := [some (rowsL rs), none, some (rowL r), none]) (i := 3) (e := e__law_tupled_1) (its_h (its_lst _)) (by rw [(g.hv r m).hl]; omega) fun p mp => by
      unfold e__law_tupled_1 oneL oneT'
      simp
    unfold e__law_tupled_1_2
    unfold rowL at e ⊢
    simp [e, rowT']
  have e := lc_mapD (mi := seqI (rowsL rs)) (as := rs) (g := rowL) (f := rowT') (h := h) (μ := [some (rowsL rs), none, none, none]) (i := 2) (e := e__law_tupled_1_2) (its_h (its_lst _)) (by omega) fun r m => by
    simpa using e r m
  unfold rowsL at e ⊢
  simp [e, rowsT']
theorem copy_ok {h : MH} {doors outs : Nat} {rs : List Row} (g : GRows doors outs rs) (hd : doors ≤ 10) (w : wf h = true) :
    ∃ j s, f__law_copy [rowsL rs] h = .ok (.ref j) (h ++ s) ∧ Own true (h ++ s) 9 h.length (h ++ s).length (.ref j) (rowsL rs) ∧ wf (h ++ s) = true := by
  have h4 := g.h4
  unfold f__law_copy defM gc bodyM s__law_copy startM
  have e1 : ∀ (p : Int × List Int) (x : MV) (h : MH), wf h = true → ∃ v s, e__law_copy_1 [some (rowsL rs), none, some x, some (oneL p)] h = .ok v (h ++ s) ∧ Own true (h ++ s) 7 h.length (h ++ s).length v (oneL p) ∧ wf (h ++ s) = true ∧ rb (h ++ s).length v = true := fun p x h w => by
    have w1 : wf (h ++ [MO.lst (p.2.map MV.int)]) = true := wf_add w rbs_ints
    refine ⟨.ref (h.length + 1), [MO.lst (p.2.map MV.int), MO.lst [.int p.1, .ref h.length]], ?_, ?_, ?_, ?_⟩
    · unfold e__law_copy_1 oneL
      simp
    · have o1 : Own true (h ++ [MO.lst (p.2.map MV.int)]) 6 h.length (h ++ [MO.lst (p.2.map MV.int)]).length (.ref h.length) (.lst (p.2.map MV.int)) := by
        refine .ref get_new ?_ (by rw [List.length_append]; exact Nat.lt_succ_self _)
        have : ∀ (xs : List Int), Owns true (h ++ [MO.lst (p.2.map MV.int)]) 5 h.length h.length (xs.map MV.int) (xs.map MV.int) := by
          intro xs
          induction xs with
          | nil => exact .nil (Nat.le_refl _)
          | cons x xs ih => exact .cons (.val rfl (Nat.le_refl _)) ih
        exact this _
      have o2 := own_new (h := h ++ [MO.lst (p.2.map MV.int)]) (xs := [.int p.1, .ref h.length]) (.cons (.val rfl (Nat.le_refl _)) (.cons o1 (.nil (Nat.le_refl _))))
      unfold oneL
      simpa using o2
    · have w2 := wf_add (o := MO.lst [.int p.1, .ref h.length]) w1 (by unfold rbO rbs rb rbs rb rbs; simp; try omega)
      simpa using w2
    · unfold rb
      simp <;> omega
  have e2 : ∀ r ∈ rs, ∀ (h : MH), wf h = true → ∃ v s, e__law_copy_1_2 [some (rowsL rs), none, some (rowL r), none] h = .ok v (h ++ s) ∧ Own true (h ++ s) 8 h.length (h ++ s).length v (rowL r) ∧ wf (h ++ s) = true ∧ rb (h ++ s).length v = true := fun r m h w => by
    obtain ⟨vs, s, q1, q2, q3, q4⟩ := lc_own (n := 7) (mi := seqI (rowL r)) (as := r) (g := oneL) (T := oneL) (h := h) (μ := [some (rowsL rs), none, some (rowL r), none]) (i := 3) (e := e__law_copy_1) (its_lst _) (by rw [(g.hv r m).hl]; omega) w fun p mp h' _ w' => e1 p (rowL r) h' w'
    have o := own_new q2
    refine ⟨.ref (h ++ s).length, s ++ [.lst vs], ?_, ?_, ?_, ?_⟩
    · unfold e__law_copy_1_2
      unfold rowL at q1 ⊢
      simp [q1]
    · unfold rowL
      simpa [Nat.add_assoc] using o
    · have := wf_add (o := MO.lst vs) q3 (rbs_up (Nat.le_succ _) _ q4)
      simpa using this
    · unfold rb
      simp
  obtain ⟨vs, s, q1, q2, q3, q4⟩ := lc_own (n := 8) (mi := seqI (rowsL rs)) (as := rs) (g := rowL) (T := rowL) (h := h) (μ := [some (rowsL rs), none, none, none]) (i := 2) (e := e__law_copy_1_2) (its_lst _) (by omega) w fun r m h' _ w' => e2 r m h' w'
  have o := own_new q2
  refine ⟨(h ++ s).length, s ++ [.lst vs], ?_, ?_, ?_⟩
  · unfold rowsL at q1 ⊢
    simp [q1]
    refine gc_keep ?_
    unfold rb
    simp
  · unfold rowsL
    simpa [Nat.add_assoc] using o
  · have := wf_add (o := MO.lst vs) q3 (rbs_up (Nat.le_succ _) _ q4)
    simpa using this
end K03

set_option Elab.async false
set_option linter.all false
set_option maxRecDepth 100000
set_option maxHeartbeats 4000000
namespace K03
open PySem PySem.Spec PyProof.Rows L2 DL M
open PySem.W (Datum Tup)
/-! what is wrong -/
section
variable {h : MH} {doors outs many : Int} {v w bad : MV} {xs ps : List MV}
theorem rowsB_none (e : sq h v = none) : rowsB h v doors outs = false := by
  unfold rowsB
  rw [e]
theorem rowsB_nil (e : sq h v = some []) : rowsB h v doors outs = false := by
  unfold rowsB
  rw [e]
  rfl
theorem rowsB_row (e : sq h v = some xs) (m : bad ∈ xs) (b : rowOk h bad doors xs.length outs = false) : rowsB h v doors outs = false := by
  unfold rowsB
  rw [e]
  dsimp only
  rw [Bool.and_eq_false_iff]
  exact .inr (List.all_eq_false.mpr ⟨bad, m, by simp [b]⟩)
theorem rowOk_none (e : sq h v = none) : rowOk h v doors many outs = false := by
  unfold rowOk
  rw [e]
theorem rowOk_len (e : sq h v = some ps) (n : (ps.length : Int) ≠ doors) : rowOk h v doors many outs = false := by
  unfold rowOk
  rw [e]
  dsimp only
  rw [decide_eq_false n]
  rfl
theorem rowOk_one (e : sq h v = some ps) (m : bad ∈ ps) (b : passB h bad many outs = false) : rowOk h v doors many outs = false := by
  unfold rowOk
  rw [e]
  dsimp only
  rw [Bool.and_eq_false_iff]
  exact .inr (List.all_eq_false.mpr ⟨bad, m, by simp [b]⟩)
theorem passB_none (e : sq h v = none) : passB h v many outs = false := by
  unfold passB
  rw [e]
theorem passB_fst {a : MV} (e : sq h v = some [a, w]) (b : isZ a = false ∨ iv a < 0 ∨ many ≤ iv a) : passB h v many outs = false := by
  unfold passB
  rw [e]
  cases a with
  | int i =>
    dsimp only
    rcases b with b | b | b
    · cases b
    · rw [decide_eq_false (show ¬ 0 ≤ i by simpa using b)]
      rfl
    · rw [decide_eq_false (show ¬ i < many by simpa using b), Bool.and_false]
      rfl
  | _ => rfl
theorem passB_cnt {a : MV} (e : sq h v = some [a, w]) (b : cntB h w outs = false) : passB h v many outs = false := by
  unfold passB
  rw [e]
  cases a with
  | int i =>
    dsimp only
    rw [b, Bool.and_false]
    rfl
  | _ => rfl
theorem passB_big {a x : MV} (e : sq h v = some [a, w]) (e2 : sq h w = some xs) (m : x ∈ xs) (b : 1000000000000 < iv x) : passB h v many outs = false := by
  unfold passB
  rw [e]
  cases a with
  | int i =>
    dsimp only
    rw [Bool.and_eq_false_iff]
    refine .inr (List.all_eq_false.mpr ⟨x, by rw [e2]; exact m, ?_⟩)
    simp
    omega
  | _ => rfl
theorem cntB_none (e : sq h v = none) : cntB h v outs = false := by
  unfold cntB
  rw [e]
theorem cntB_len (e : sq h v = some xs) (n : (xs.length : Int) ≠ outs) : cntB h v outs = false := by
  unfold cntB
  rw [e]
  dsimp only
  rw [decide_eq_false n]
  rfl
theorem cntB_item {x : MV} (e : sq h v = some xs) (m : x ∈ xs) (b : isZ x = false ∨ iv x < 0) : cntB h v outs = false := by
  unfold cntB
  rw [e]
  dsimp only
  rcases b with b | b
  · rw [Bool.and_eq_false_iff, Bool.and_eq_false_iff]
    exact .inl (.inr (List.all_eq_false.mpr ⟨x, m, by simp [b]⟩))
  · rw [Bool.and_eq_false_iff]
    refine .inr (List.all_eq_false.mpr ⟨x, m, ?_⟩)
    simp
    omega
end
structure Bad (doors outs : Nat) (v : MV) : Prop where
  p : pt v = true
  b : ∀ h, rowsB h v doors outs = false
section
variable {doors outs at_ door : Nat} {rs : List Row} {r : Row} {p : Int × List Int} {x : MV}
theorem bad_row (g : GRows doors outs rs) (hd : doors ≤ 4) (ho : outs ≤ 6) (ha : at_ < rs.length) (px : pt x = true) (b : ∀ h, rowOk h x doors rs.length outs = false) : Bad doors outs (.lst ((rs.map rowL).set at_ x)) where
  p := pt_lst (by rw [List.length_set, List.length_map]; have := g.h4; omega) fun y m => by
    rcases List.mem_or_eq_of_mem_set m with m | rfl
    · obtain ⟨r, mr, rfl⟩ := List.mem_map.mp m
      exact pt_rowL (by omega) (by omega) (g.hv r mr)
    · exact px
  b := fun h => rowsB_row (bad := x) rfl (List.mem_set (l := rs.map rowL) (by rw [List.length_map]; exact ha) _) (by rw [List.length_set, List.length_map]; exact b h)
theorem bad_one (g : GRows doors outs rs) (hd : doors ≤ 4) (ho : outs ≤ 6) (hr : rs[at_]? = some r) (hp : door < r.length) (px : pt x = true) (b : ∀ h, passB h x rs.length outs = false) : Bad doors outs (.lst ((rs.map rowL).set at_ (.lst ((r.map oneL).set door x)))) := by
  have gr := g.hv r (List.mem_of_getElem? hr)
  refine bad_row g hd ho (List.getElem?_eq_some_iff.mp hr).1 (pt_lst (by rw [List.length_set, List.length_map, gr.hl]; omega) fun y m => ?_) fun h => rowOk_one (bad := x) rfl (List.mem_set (l := r.map oneL) (by rw [List.length_map]; exact hp) _) (b h)
  rcases List.mem_or_eq_of_mem_set m with m | rfl
  · obtain ⟨p, mp, rfl⟩ := List.mem_map.mp m
    exact pt_oneL (by rw [(gr.hv p mp).hl]; omega)
  · exact px
theorem pt_pair {a w : MV} (pa : pt a = true) (pw : pt w = true) : pt (.lst [a, w]) = true := pt_lst (by simp) fun x m => by
  simp at m
  rcases m with rfl | rfl
  · exact pa
  · exact pw
theorem bad_fst (g : GRows doors outs rs) (hd : doors ≤ 4) (ho : outs ≤ 6) (hr : rs[at_]? = some r) (hp : r[door]? = some p) (px : pt x = true) (b : isZ x = false ∨ iv x < 0 ∨ (rs.length : Int) ≤ iv x) : Bad doors outs (.lst ((rs.map rowL).set at_ (.lst ((r.map oneL).set door (.lst ([MV.int p.1, .lst (p.2.map .int)].set 0 x)))))) := by
  have gp := (g.hv r (List.mem_of_getElem? hr)).hv p (List.mem_of_getElem? hp)
  exact bad_one g hd ho hr (List.getElem?_eq_some_iff.mp hp).1 (pt_pair px (pt_lst (by rw [List.length_map, gp.hl]; omega) pt_ints)) fun h => passB_fst rfl b
theorem bad_cnt (g : GRows doors outs rs) (hd : doors ≤ 4) (ho : outs ≤ 6) (hr : rs[at_]? = some r) (hp : r[door]? = some p) (px : pt x = true) (b : ∀ h, cntB h x outs = false) : Bad doors outs (.lst ((rs.map rowL).set at_ (.lst ((r.map oneL).set door (.lst ([MV.int p.1, .lst (p.2.map .int)].set 1 x)))))) := by
  exact bad_one g hd ho hr (List.getElem?_eq_some_iff.mp hp).1 (pt_pair rfl px) fun h => passB_cnt rfl (b h)
theorem bad_item {o : Nat} (g : GRows doors outs rs) (hd : doors ≤ 4) (ho : outs ≤ 6) (hr : rs[at_]? = some r) (hp : r[door]? = some p) (hq : o < outs) (px : pt x = true) (b : isZ x = false ∨ iv x < 0 ∨ 1000000000000 < iv x) : Bad doors outs (.lst ((rs.map rowL).set at_ (.lst ((r.map oneL).set door (.lst ([MV.int p.1, .lst (p.2.map .int)].set 1 (.lst ((p.2.map MV.int).set o x)))))))) := by
  have gp := (g.hv r (List.mem_of_getElem? hr)).hv p (List.mem_of_getElem? hp)
  have pw : pt (.lst ((p.2.map MV.int).set o x)) = true := pt_lst (by rw [List.length_set, List.length_map, gp.hl]; omega) fun y m => by
    rcases List.mem_or_eq_of_mem_set m with m | rfl
    · exact pt_ints y m
    · exact px
  have mx : x ∈ (p.2.map MV.int).set o x := List.mem_set (l := p.2.map MV.int) (by rw [List.length_map, gp.hl]; exact hq) _
  refine bad_one g hd ho hr (List.getElem?_eq_some_iff.mp hp).1 (pt_pair rfl pw) fun h => ?_
  rcases b with b | b | b
  · exact passB_cnt rfl (cntB_item rfl mx (.inl b))
  · exact passB_cnt rfl (cntB_item rfl mx (.inr b))
  · exact passB_big rfl rfl mx b
end
end K03

set_option Elab.async false
set_option linter.all false
set_option maxRecDepth 100000
set_option maxHeartbeats 4000000
namespace K03
open PySem PySem.Spec PyProof.Rows L2 DL M
open PySem.W (Datum Tup)
theorem wrong_ok {cells : List Int} {a l : Int} {t : MH} {doors outs : Nat} {rs : List Row} (h0 : 0 ≤ a) (h1 : a ≤ 1040000) (w : wf (pnO cells a l :: t) = true) (hd1 : 1 ≤ doors) (hd : doors ≤ 4) (ho : outs ≤ 6) (g : GRows doors outs rs) :
    ∃ v a' l', f__law_wrong [.ref 0, rowsL rs, .int doors, .int outs] (pnO cells a l :: t) = .ok v (pnO cells a' l' :: t) ∧ Bad doors outs v ∧ a ≤ a' ∧ a' ≤ a + 5 := by
  suffices H : ∃ v a' l' s, s__law_wrong (startM 9 [.ref 0, rowsL rs, .int doors, .int outs]) (pnO cells a l :: t) = .ret v (pnO cells a' l' :: (t ++ s)) ∧ Bad doors outs v ∧ a ≤ a' ∧ a' ≤ a + 5 by
    obtain ⟨v, a', l', s, e, b, p, q⟩ := H
    refine ⟨v, a', l', ?_, b, p, q⟩
    unfold f__law_wrong defM gc bodyM
    rw [e]
    exact gc_app' (h := pnO cells a' l' :: t) rfl (wf_pn w) (pt_rb b.p)
  have g1 := g.h1
  have g4 := g.h4
  obtain ⟨j, s, e1, o1, w1⟩ := copy_ok g (by omega : doors ≤ 10) w
  have o1 : ∀ a' l', Own true (pnO cells a' l' :: (t ++ s)) 9 (t.length + 1) (t.length + 1 + s.length) (.ref j) (rowsL rs) := fun a' l' => by
    have o2 := o1.fr (h' := pnO cells a' l' :: (t ++ s)) fun i p q => by
      cases i with
      | zero => exact absurd p (by simp)
      | succ i => rfl
    simpa [Nat.add_right_comm] using o2
  obtain ⟨way, a1, l1, e2, r2, b1, c1⟩ := draw_nat (cells := cells) (a := a) (l := l) (t := t ++ s) (many := 9) h0 (by omega) (by omega) (by omega)
  obtain ⟨at_, a2, l2, e3, r3, b2, c2⟩ := draw_nat (cells := cells) (a := a1) (l := l1) (t := t ++ s) (many := rs.length) (by omega) (by omega) (by omega) (by omega)
  obtain ⟨door, a3, l3, e4, r4, b3, c3⟩ := draw_nat (cells := cells) (a := a2) (l := l2) (t := t ++ s) (many := doors) (by omega) (by omega) (by omega) (by omega)
  have hlen : ∀ h, lenM [rowsL rs] h = .ok (.int rs.length) h := fun h => by unfold rowsL; rw [len_l, List.length_map]
  simp at e1 e2
  have er : rs[at_]? = some rs[at_] := List.getElem?_eq_getElem r3
  generalize hr : rs[at_] = r at er
  have gr := g.hv r (List.mem_of_getElem? er)
  have ep : r[door]? = some (r[door]'(by rw [gr.hl]; exact r4)) := List.getElem?_eq_getElem _
  generalize hp : r[door]'(by rw [gr.hl]; exact r4) = p at ep
  have gp := gr.hv p (List.mem_of_getElem? ep)
  -- the end: the copy is locked, and is what is given back
  have fin : ∀ (μ : ME) (a' l' : Int) (s2 : MH) (T : MV), μ[5]? = some (some (.ref j)) → s2.length = s.length → Own false (pnO cells a' l' :: (t ++ s2)) 9 (t.length + 1) (t.length + 1 + s.length) (.ref j) T → ∃ s3, frzDS 5 (retS (varE 5)) μ (pnO cells a' l' :: (t ++ s2)) = .ret T (pnO cells a' l' :: (t ++ s3)) := by
    intro μ a' l' s2 T e _ o
    obtain ⟨s3, q1, q2, _, q3⟩ := frzDS_ev (b := pnO cells a' l' :: t) (s := s2) e o (by simp)
    refine ⟨s3, (q1 _).trans ?_⟩
    have : (varE 5) (μ.set 5 (some T)) (pnO cells a' l' :: t ++ s3) = .ok T (pnO cells a' l' :: t ++ s3) := by
      unfold varE
      rw [List.getElem?_set_self (List.getElem?_eq_some_iff.mp e).1]
    unfold retS
    rw [this]
    rfl
  have kr : ((rs.map rowL)[at_]?) = some (.lst (r.map oneL)) := by rw [List.getElem?_map, er]; rfl
  have kp : ((r.map oneL)[door]?) = some (.lst [.int p.1, .lst (p.2.map .int)]) := by rw [List.getElem?_map, ep]; rfl
  have dl : door < r.length := by rw [gr.hl]; exact r4
  -- what is written into the copy
  have put1 : ∀ (a' l' : Int) (x : MV), nref x = true → ∃ i1 s2, ixM (.ref j) (.int at_) (pnO cells a' l' :: (t ++ s)) = .ok (.ref i1) (pnO cells a' l' :: (t ++ s)) ∧ setM (.ref i1) (.int door) x (pnO cells a' l' :: (t ++ s)) = some (pnO cells a' l' :: (t ++ s2)) ∧ s2.length = s.length ∧ Own false (pnO cells a' l' :: (t ++ s2)) 9 (t.length + 1) (t.length + 1 + s.length) (.ref j) (.lst ((rs.map rowL).set at_ (.lst ((r.map oneL).set door x)))) := by
    intro a' l' x hx
    obtain ⟨i1, lo1, hi1, ⟨q1, x1, y1, z1⟩, q2, q3, q4, q5⟩ := own_at (n := 7) (o1 a' l') kr
    obtain ⟨s2, p1, p2, p3, p4⟩ := own_put (n := 6) (b := pnO cells a' l' :: t) (s := s) q4 q2 (by rw [List.length_map]; exact dl) hx
    exact ⟨i1, s2, q1, p1, p2, q5 _ _ (fun i x y z => p3 i z) p4⟩
  have put2 : ∀ (a' l' : Int) (x : MV) (k : Nat), k < 2 → nref x = true → ∃ i1 i2 s2, ixM (.ref j) (.int at_) (pnO cells a' l' :: (t ++ s)) = .ok (.ref i1) (pnO cells a' l' :: (t ++ s)) ∧ ixM (.ref i1) (.int door) (pnO cells a' l' :: (t ++ s)) = .ok (.ref i2) (pnO cells a' l' :: (t ++ s)) ∧ setM (.ref i2) (.int k) x (pnO cells a' l' :: (t ++ s)) = some (pnO cells a' l' :: (t ++ s2)) ∧ s2.length = s.length ∧ Own false (pnO cells a' l' :: (t ++ s2)) 9 (t.length + 1) (t.length + 1 + s.length) (.ref j) (.lst ((rs.map rowL).set at_ (.lst ((r.map oneL).set door (.lst ([.int p.1, .lst (p.2.map .int)].set k x)))))) := by
    intro a' l' x k hk hx
    obtain ⟨i1, lo1, hi1, ⟨q1, x1, y1, z1⟩, q2, q3, q4, q5⟩ := own_at (n := 7) (o1 a' l') kr
    obtain ⟨i2, lo2, hi2, ⟨u1, x2, y2, z2⟩, u2, u3, u4, u5⟩ := own_at (n := 6) q4 kp
    obtain ⟨s2, p1, p2, p3, p4⟩ := own_put (n := 5) (b := pnO cells a' l' :: t) (s := s) u4 (Nat.le_trans q2 u2) (by simpa using hk) hx
    exact ⟨i1, i2, s2, q1, u1, p1, p2, q5 _ _ (fun i x y z => p3 i (by omega)) (u5 _ _ (fun i x y z => p3 i z) p4)⟩
  have put3 : ∀ (a' l' : Int) (x : MV) (k : Nat), k < outs → nref x = true → ∃ i1 i2 i3 s2, (∀ a l, ixM (.ref j) (.int at_) (pnO cells a l :: (t ++ s)) = .ok (.ref i1) (pnO cells a l :: (t ++ s))) ∧ (∀ a l, ixM (.ref i1) (.int door) (pnO cells a l :: (t ++ s)) = .ok (.ref i2) (pnO cells a l :: (t ++ s))) ∧ (∀ a l, ixM (.ref i2) (.int 1) (pnO cells a l :: (t ++ s)) = .ok (.ref i3) (pnO cells a l :: (t ++ s))) ∧ setM (.ref i3) (.int k) x (pnO cells a' l' :: (t ++ s)) = some (pnO cells a' l' :: (t ++ s2)) ∧ s2.length = s.length ∧ Own false (pnO cells a' l' :: (t ++ s2)) 9 (t.length + 1) (t.length + 1 + s.length) (.ref j) (.lst ((rs.map rowL).set at_ (.lst ((r.map oneL).set door (.lst ([.int p.1, .lst (p.2.map .int)].set 1 (.lst ((p.2.map MV.int).set k x)))))))) := by
    intro a' l' x k hk hx
    obtain ⟨i1, lo1, hi1, ⟨q1, x1, y1, z1⟩, q2, q3, q4, q5⟩ := own_at (n := 7) (o1 a' l') kr
    obtain ⟨i2, lo2, hi2, ⟨u1, x2, y2, z2⟩, u2, u3, u4, u5⟩ := own_at (n := 6) q4 kp
    obtain ⟨i3, lo3, hi3, ⟨v1, x3, y3, z3⟩, v2, v3, v4, v5⟩ := own_at (n := 5) (k := 1) (us := p.2.map .int) u4 rfl
    obtain ⟨s2, p1, p2, p3, p4⟩ := own_put (n := 4) (b := pnO cells a' l' :: t) (s := s) v4 (Nat.le_trans q2 (Nat.le_trans u2 v2)) (by rw [List.length_map, gp.hl]; exact hk) hx
    have j1 : 1 ≤ j := by have := (o1 a' l').lo; omega
    have j2 : 1 ≤ i1 := by have := q4.lo; omega
    have j3 : 1 ≤ i2 := by have := u4.lo; omega
    exact ⟨i1, i2, i3, s2, fun a l => ix_pen j1 y1 z1, fun a l => ix_pen j2 y2 z2, fun a l => ix_pen (i := 1) j3 y3 z3, p1, p2, q5 _ _ (fun i x y z => p3 i (by omega)) (u5 _ _ (fun i x y z => p3 i (by omega)) (v5 _ _ (fun i x y z => p3 i z) p4))⟩
  have sl : ∀ {x : Str} {n : Nat}, x.length ≤ 1000 → n ≤ 10 → ∀ h, mulM false (.str x) (.int n) h = .ok (.str (strRep x n)) h := fun hx hn h => mul_sz (by omega) (by omega) hx
  have sl1 : ∀ {x : Str}, x.length ≤ 1000 → ∀ h, mulM false (.str x) (.int ((outs : Int) + 1)) h = .ok (.str (strRep x ((outs : Int) + 1))) h := fun hx h => mul_sz (by omega) (by omega) hx
  have ll : ∀ x h, mulM false (.lst [x]) (.int outs) h = .ok (.lst (List.replicate outs x)) h := fun x h => by
    rw [mul_lz (by omega) (by omega) (by simp), rep_one]
    rfl
  have ll1 : ∀ x h, mulM false (.lst [x]) (.int ((outs : Int) + 1)) h = .ok (.lst (List.replicate (outs + 1) x)) h := fun x h => by
    rw [mul_lz (by omega) (by omega) (by simp), rep_one]
    rfl
  have lt1 : ∀ x h, mulM false (.tup [x]) (.int ((outs : Int) + 1)) h = .ok (.tup (List.replicate (outs + 1) x)) h := fun x h => by
    rw [mul_tz (by omega) (by omega) (by simp), rep_one]
    rfl
  have lx : Str.length "x" ≤ 1000 := by decide +kernel
  have l0 : Str.length "0" ≤ 1000 := by decide +kernel
  have pw : ∀ k : Int, (k = 12 ∨ k = 30 ∨ k = 40) → powOk 10 k = true := by
    intro k hk
    rcases hk with rfl | rfl | rfl <;> decide
  have p12 := pw 12 (by simp)
  have p30 := pw 30 (by simp)
  have p40 := pw 40 (by simp)
  have a3' : a ≤ a3 ∧ a3 ≤ a + 3 := ⟨by omega, by omega⟩
  clear b1 c1 b2 c2 b3 c3
  have hp0 : 0 ≤ a3 := by omega
  have hp1 : a3 ≤ 1048576 := by omega
  by_cases hw0 : way = 0
  · subst hw0
    obtain ⟨s3, q1, q2, _, q3⟩ := frzDS_ev (b := pnO cells a3 l3 :: t) (s := s) (i := 5) (μ := [some (.ref 0), some (rowsL rs), some (.int doors), some (.int outs), some (.int rs.length), some (.ref j), some (.int 0), some (.int at_), some (.int door)]) rfl (o1 a3 l3) (by simp)
    have i0 : ∀ h, ixM (rowsL rs) (.int 0) h = .ok (rowL (rs[0]'g1)) h := fun h => by
      unfold rowsL
      rw [ix_l, show (0 : Int) = ((0 : Nat) : Int) from rfl, at_nat, List.getElem?_map, List.getElem?_eq_getElem g1]
      rfl
    have ad : ∀ h, addM false (rowsL rs) (.lst [.lst []]) h = .ok (.lst (rs.map rowL ++ [.lst []])) h := fun h => by
      unfold rowsL
      rw [add_ll, List.length_map, if_pos (by have : LIM = 1000000 := rfl; simp; omega)]
      rfl
    obtain ⟨x, a4, l4, e5, m5, b4, c4⟩ := pick_ok (cells := cells) (a := a3) (l := l3) (t := t ++ s3) (xs := [.non, .int 5, .str "rows", .lst [], .tup [], .dic [] [], .bl true, rowL (rs[0]'g1), .lst (rs.map rowL ++ [.lst []])]) hp0 hp1 (by simp) (by simp)
    refine ⟨x, a4, l4, s3, ?_, ?_, by omega, by omega⟩
    · unfold s__law_wrong startM
      simp at q1
      simp [e1, e2, e3, e4, hlen, q1, i0, ad, e5]
    · have g0 := g.hv (rs[0]'g1) (List.getElem_mem _)
      simp at m5
      rcases m5 with rfl | rfl | rfl | rfl | rfl | rfl | rfl | rfl | rfl
      · exact ⟨rfl, fun h => rowsB_none rfl⟩
      · exact ⟨rfl, fun h => rowsB_none rfl⟩
      · exact ⟨rfl, fun h => rowsB_none rfl⟩
      · exact ⟨rfl, fun h => rowsB_nil rfl⟩
      · exact ⟨rfl, fun h => rowsB_nil rfl⟩
      · exact ⟨rfl, fun h => rowsB_none rfl⟩
      · exact ⟨rfl, fun h => rowsB_none rfl⟩
      · refine ⟨pt_rowL (by omega) (by omega) g0, fun h => ?_⟩
        obtain ⟨q, hq⟩ : ∃ q, q ∈ rs[0]'g1 := ⟨_, List.getElem_mem (show 0 < (rs[0]'g1).length by rw [g0.hl]; omega)⟩
        refine rowsB_row (bad := oneL q) rfl (List.mem_map_of_mem hq) ?_
        exact rowOk_one (bad := .int q.1) rfl (by simp) (passB_none rfl)
      · refine ⟨pt_lst (by simp; omega) fun x m => ?_, fun h => rowsB_row (bad := .lst []) rfl (by simp) (rowOk_len rfl (by simp; omega))⟩
        rcases List.mem_append.mp m with m | m
        · obtain ⟨q, mq, rfl⟩ := List.mem_map.mp m
          exact pt_rowL (by omega) (by omega) (g.hv q mq)
        · rw [List.mem_singleton] at m
          subst m
          rfl
  have hw0' : ¬ (way : Int) = 0 := by omega
  by_cases hw1 : way = 1
  · subst hw1
    obtain ⟨s3, q1, q2, q3, q4, q5, q6⟩ := frzCS_ev (b := pnO cells a3 l3 :: t) (s := s) (i := 5) (ts := rs.map rowL) (μ := [some (.ref 0), some (rowsL rs), some (.int doors), some (.int outs), some (.int rs.length), some (.ref j), some (.int 1), some (.int at_), some (.int door)]) rfl (o1 a3 l3).deep (by simp) (fun x m => by
      obtain ⟨q, _, rfl⟩ := List.mem_map.mp m
      rfl)
    have ia : ∀ a' l', ixM (.ref j) (.int at_) (pnO cells a' l' :: (t ++ s3)) = .ok (rowL r) (pnO cells a' l' :: (t ++ s3)) := fun a' l' => by
      obtain ⟨j, rfl⟩ : ∃ i, j = i + 1 := ⟨j - 1, by omega⟩
      rw [ix_sq (sq_ref (xs := rs.map rowL) (by exact q4)), at_nat, kr]
      rfl
    have ad : ∀ h, addM false (rowL r) (.lst ((r.map oneL).take 1)) h = .ok (.lst (r.map oneL ++ (r.map oneL).take 1)) h := fun h => by
      unfold rowL
      rw [add_ll, if_pos (by have : LIM = 1000000 := rfl; have := gr.hl; simp; omega)]
      rfl
    have cu : ∀ lo hi h, slM false (rowL r) lo hi h = .ok (.lst (cutM (r.map oneL) lo hi)) h := fun lo hi h => sl_l
    obtain ⟨x, a4, l4, e5, m5, b4, c4⟩ := pick_ok (cells := cells) (a := a3) (l := l3) (t := t ++ s3) (xs := [.non, .lst [], .lst (r.map oneL ++ (r.map oneL).take 1), .lst (r.map oneL).tail, .str (strRep "x" doors), .int 0]) hp0 hp1 (by simp) (by simp)
    have px : pt x = true ∧ ∀ h, rowOk h x doors rs.length outs = false := by
      have po : ∀ y ∈ r.map oneL, pt y = true := fun y m => by
        obtain ⟨q, mq, rfl⟩ := List.mem_map.mp m
        exact pt_oneL (by rw [(gr.hv q mq).hl]; omega)
      have hl := gr.hl
      simp only [List.mem_cons, List.not_mem_nil, or_false] at m5
      rcases m5 with rfl | rfl | rfl | rfl | rfl | rfl
      · exact ⟨rfl, fun h => rowOk_none rfl⟩
      · exact ⟨rfl, fun h => rowOk_len rfl (by simp; omega)⟩
      · refine ⟨pt_lst (by simp; omega) fun y m => ?_, fun h => rowOk_len rfl (by simp; omega)⟩
        rcases List.mem_append.mp m with m | m
        · exact po y m
        · exact po y (List.mem_of_mem_take m)
      · exact ⟨pt_lst (by simp; omega) fun y m => po y (List.mem_of_mem_tail m), fun h => rowOk_len rfl (by simp; omega)⟩
      · exact ⟨rfl, fun h => rowOk_none rfl⟩
      · exact ⟨rfl, fun h => rowOk_none rfl⟩
    obtain ⟨s4, u1, u2, u3, u4⟩ := own_put (n := 7) (b := pnO cells a4 l4 :: t) (s := s3) (k := at_) (v := x) (((q3 7).fr (h' := pnO cells a4 l4 :: (t ++ s3)) fun i p q => by
      cases i with
      | zero => exact absurd p (by simp)
      | succ i => rfl)) (by simp) (by rw [List.length_map]; exact r3) (pt_nref px.1)
    obtain ⟨s5, e6⟩ := fin [some (.ref 0), some (rowsL rs), some (.int doors), some (.int outs), some (.int rs.length), some (.ref j), some (.int 1), some (.int at_), some (.int door)] a4 l4 s4 _ rfl (by omega) u4
    refine ⟨_, a4, l4, s5, ?_, bad_row g hd ho r3 px.1 px.2, by omega, by omega⟩
    unfold s__law_wrong startM
    simp at q1 u1
    simp [e1, e2, e3, e4, hlen, q1, ia, cu, ad, sl lx (show doors ≤ 10 by omega), e5, u1, e6]
  have hw1' : ¬ (way : Int) = 1 := by omega
  by_cases hw2 : way = 2
  · subst hw2
    obtain ⟨x, a4, l4, e5, m5, b4, c4⟩ := pick_ok (cells := cells) (a := a3) (l := l3) (t := t ++ s) (xs := [.non, .int 0, .lst [.int 0], .lst [.int 0, .lst (List.replicate outs (.int 0)), .int 0], .str "00", .dic [] []]) hp0 hp1 (by simp) (by simp)
    have px : pt x = true ∧ ∀ h, passB h x rs.length outs = false := by
      simp only [List.mem_cons, List.not_mem_nil, or_false] at m5
      rcases m5 with rfl | rfl | rfl | rfl | rfl | rfl
      · exact ⟨rfl, fun h => passB_none rfl⟩
      · exact ⟨rfl, fun h => passB_none rfl⟩
      · exact ⟨rfl, fun h => rfl⟩
      · refine ⟨pt_lst (by simp) fun y m => ?_, fun h => rfl⟩
        simp only [List.mem_cons, List.not_mem_nil, or_false] at m
        rcases m with rfl | rfl | rfl
        · rfl
        · refine pt_lst (by simp; omega) fun z m => ?_
          rw [(List.mem_replicate.mp m).2]
          rfl
        · rfl
      · exact ⟨rfl, fun h => passB_none rfl⟩
      · exact ⟨rfl, fun h => passB_none rfl⟩
    obtain ⟨i1, s2, u1, u2, u3, u4⟩ := put1 a4 l4 x (pt_nref px.1)
    obtain ⟨s5, e6⟩ := fin [some (.ref 0), some (rowsL rs), some (.int doors), some (.int outs), some (.int rs.length), some (.ref j), some (.int 2), some (.int at_), some (.int door)] a4 l4 s2 _ rfl u3 u4
    refine ⟨_, a4, l4, s5, ?_, bad_one g hd ho er dl px.1 px.2, by omega, by omega⟩
    unfold s__law_wrong startM
    simp [e1, e2, e3, e4, hlen, ll, e5, u1, u2, e6]
  have hw2' : ¬ (way : Int) = 2 := by omega
  by_cases hw3 : way = 3
  · subst hw3
    obtain ⟨x, a4, l4, e5, m5, b4, c4⟩ := pick_ok (cells := cells) (a := a3) (l := l3) (t := t ++ s) (xs := [.int (-1), .int rs.length, .non, .bl true, .str "0", .int (10 ^ 30), .lst [.int 0]]) hp0 hp1 (by simp) (by simp)
    have px : pt x = true ∧ (isZ x = false ∨ iv x < 0 ∨ (rs.length : Int) ≤ iv x) := by
      simp only [List.mem_cons, List.not_mem_nil, or_false] at m5
      rcases m5 with rfl | rfl | rfl | rfl | rfl | rfl | rfl
      · exact ⟨rfl, .inr (.inl (by simp))⟩
      · exact ⟨rfl, .inr (.inr (by simp))⟩
      · exact ⟨rfl, .inl rfl⟩
      · exact ⟨rfl, .inl rfl⟩
      · exact ⟨rfl, .inl rfl⟩
      · exact ⟨rfl, .inr (.inr (by simp; omega))⟩
      · exact ⟨rfl, .inl rfl⟩
    obtain ⟨i1, i2, s2, u1, u2, u3, u4, u5⟩ := put2 a4 l4 x 0 (by omega) (pt_nref px.1)
    obtain ⟨s5, e6⟩ := fin [some (.ref 0), some (rowsL rs), some (.int doors), some (.int outs), some (.int rs.length), some (.ref j), some (.int 3), some (.int at_), some (.int door)] a4 l4 s2 _ rfl u4 u5
    refine ⟨_, a4, l4, s5, ?_, bad_fst g hd ho er ep px.1 px.2, by omega, by omega⟩
    unfold s__law_wrong startM
    simp at u3 e5
    simp [e1, e2, e3, e4, hlen, p30, e5, u1, u2, u3, e6]
  have hw3' : ¬ (way : Int) = 3 := by omega
  by_cases hw4 : way = 4 ∨ outs = 0
  · obtain ⟨x, a4, l4, e5, m5, b4, c4⟩ := pick_ok (cells := cells) (a := a3) (l := l3) (t := t ++ s) (xs := [.non, .int 7, .str (strRep "0" ((outs : Int) + 1)), .lst (List.replicate (outs + 1) (.int 0)), .tup (List.replicate (outs + 1) (.int 0)), .dic [] [], .lst (List.replicate (outs + 1) .non)]) hp0 hp1 (by simp) (by simp)
    have px : pt x = true ∧ ∀ h, cntB h x outs = false := by
      have pr : ∀ {y : MV}, pt y = true → ∀ z ∈ List.replicate (outs + 1) y, pt z = true := fun py z m => by
        rw [(List.mem_replicate.mp m).2]
        exact py
      simp only [List.mem_cons, List.not_mem_nil, or_false] at m5
      rcases m5 with rfl | rfl | rfl | rfl | rfl | rfl | rfl
      · exact ⟨rfl, fun h => cntB_none rfl⟩
      · exact ⟨rfl, fun h => cntB_none rfl⟩
      · exact ⟨rfl, fun h => cntB_none rfl⟩
      · exact ⟨pt_lst (by simp; omega) (pr rfl), fun h => cntB_len rfl (by simp; omega)⟩
      · exact ⟨pt_tup (by simp; omega) (pr rfl), fun h => cntB_len rfl (by simp; omega)⟩
      · exact ⟨rfl, fun h => cntB_none rfl⟩
      · exact ⟨pt_lst (by simp; omega) (pr rfl), fun h => cntB_len rfl (by simp; omega)⟩
    obtain ⟨i1, i2, s2, u1, u2, u3, u4, u5⟩ := put2 a4 l4 x 1 (by omega) (pt_nref px.1)
    obtain ⟨s5, e6⟩ := fin [some (.ref 0), some (rowsL rs), some (.int doors), some (.int outs), some (.int rs.length), some (.ref j), some (.int way), some (.int at_), some (.int door)] a4 l4 s2 _ rfl u4 u5
    refine ⟨_, a4, l4, s5, ?_, bad_cnt g hd ho er ep px.1 px.2, by omega, by omega⟩
    unfold s__law_wrong startM
    simp at u3
    by_cases hw4' : way = 4
    · subst hw4'
      simp only [Int.cast_ofNat_Int] at e6
      simp [e1, e2, e3, e4, hlen, sl1 l0, ll1, lt1, e5, u1, u2, u3, e6]
    · have hw4i : ¬ (way : Int) = 4 := by omega
      have hz := eq_true (show outs = 0 by omega)
      simp [e1, e2, e3, e4, hlen, hw0, hw1', hw2', hw3', hw4i, hz, sl1 l0, ll1, lt1, e5, u1, u2, u3, e6]
  have hw4' : ¬ (way : Int) = 4 := by omega
  have hz : ¬ outs = 0 := by omega
  have hw4n : ¬ way = 4 := by omega
  by_cases hw5 : way = 5
  · subst hw5
    have lm : ∀ h, mulM false (.lst [.int 0]) (.int ((outs : Int) - 1)) h = .ok (.lst (List.replicate (outs - 1) (.int 0))) h := fun h => by
      rw [mul_lz (by omega) (by omega) (by simp), rep_one, show ((outs : Int) - 1).toNat = outs - 1 by omega]
      rfl
    have pz : pt (.lst (List.replicate (outs - 1) (.int 0))) = true := pt_lst (by simp; omega) fun z m => by
      rw [(List.mem_replicate.mp m).2]
      rfl
    obtain ⟨i1, i2, s2, u1, u2, u3, u4, u5⟩ := put2 a3 l3 (.lst (List.replicate (outs - 1) (.int 0))) 1 (by omega) rfl
    obtain ⟨s5, e6⟩ := fin [some (.ref 0), some (rowsL rs), some (.int doors), some (.int outs), some (.int rs.length), some (.ref j), some (.int 5), some (.int at_), some (.int door)] a3 l3 s2 _ rfl u4 u5
    refine ⟨_, a3, l3, s5, ?_, bad_cnt g hd ho er ep pz fun h => cntB_len rfl (by simp; omega), by omega, by omega⟩
    unfold s__law_wrong startM
    simp at u3
    simp [e1, e2, e3, e4, hlen, hz, lm, u1, u2, u3, e6]
  have hw5' : ¬ (way : Int) = 5 := by omega
  obtain ⟨x, a4, l4, e5, m5, b4, c4⟩ := pick_ok (cells := cells) (a := a3) (l := l3) (t := t ++ s) (xs := [.int (-1), .int (10 ^ 12 + 1), .bl true, .non, .str "1", .lst [.int 1], .int (10 ^ 40)]) hp0 hp1 (by simp) (by simp)
  obtain ⟨o, a5, l5, e7, r5, b5, c5⟩ := draw_nat (cells := cells) (a := a4) (l := l4) (t := t ++ s) (many := outs) (by omega) (by omega) (by omega) (by omega)
  have px : pt x = true ∧ (isZ x = false ∨ iv x < 0 ∨ 1000000000000 < iv x) := by
    simp only [List.mem_cons, List.not_mem_nil, or_false] at m5
    rcases m5 with rfl | rfl | rfl | rfl | rfl | rfl | rfl
    · exact ⟨rfl, .inr (.inl (by simp))⟩
    · exact ⟨rfl, .inr (.inr (by simp))⟩
    · exact ⟨rfl, .inl rfl⟩
    · exact ⟨rfl, .inl rfl⟩
    · exact ⟨rfl, .inl rfl⟩
    · exact ⟨rfl, .inl rfl⟩
    · exact ⟨rfl, .inr (.inr (by simp))⟩
  obtain ⟨i1', i2', i3', s2', v1, v2, v3, v4, v5, v6⟩ := put3 a5 l5 x o r5 (pt_nref px.1)
  obtain ⟨s5, e6⟩ := fin [some (.ref 0), some (rowsL rs), some (.int doors), some (.int outs), some (.int rs.length), some (.ref j), some (.int way), some (.int at_), some (.int door)] a5 l5 s2' _ rfl v5 v6
  refine ⟨_, a5, l5, s5, ?_, bad_item g hd ho er ep r5 px.1 px.2, by omega, by omega⟩
  unfold s__law_wrong startM
  simp at e5
  simp [e1, e2, e3, e4, hlen, hw0, hw1', hw2', hw3', hw4', hw5', hz, p12, p40, e5, e7, v1, v2, v3, v4, e6]
end K03

set_option Elab.async false
set_option linter.all false
set_option maxRecDepth 100000
set_option maxHeartbeats 4000000
namespace K03
open PySem PySem.Spec PyProof.Rows L2 DL M
open PySem.W (Datum Tup)
theorem heard_x {θ : MH → R MV} {h : MH} {C n x : Str} (hc : C = "BadNumber" ∧ n = "badnumber" ∨ C = "BadPart" ∧ n = "badpart") (w : wf h = true) (e : θ (h ++ [.lst []]) = .exc C [.str x] (h ++ [.lst []])) : o__law_heard θ h = .ok (.tup [.str n, .str x]) h := by
  unfold o__law_heard s__law_heard startM
  rcases hc with ⟨rfl, rfl⟩ | ⟨rfl, rfl⟩
  · simp [e, tryK_x, retOf, eqK_ii]
    refine gc_app w ?_
    rfl
  · simp [e, tryK_x, retOf, eqK_ii]
    refine gc_app w ?_
    rfl
theorem heard_v {θ : MH → R MV} {h : MH} {v : MV} (w : wf h = true) (r : rb h.length v = true) (e : θ (h ++ [.lst []]) = .ok v (h ++ [.lst []])) : o__law_heard θ h = .ok (.lst [v]) h := by
  unfold o__law_heard s__law_heard startM
  simp [e, retOf]
  exact gc_app w (rb_lst fun x m => by rw [List.mem_singleton] at m; subst m; exact r)
theorem part3 {h : MH} {d o r : MV} (w : wf h = true) (pd : pl h d = true) (po : pl h o = true) (pr : okI d 1 4 = true → okI o 0 6 = true → plR h r) : mk_Part_3 [d, o, r] h = partR h d o r := by
  rw [← init_v w pd po pr]
  unfold mk_Part_3 gc makeM
  simp
theorem part0 {h : MH} {d o r : MV} (w : wf h = true) (pd : pl h d = true) (po : pl h o = true) (pr : okI d 1 4 = true → okI o 0 6 = true → plR h r) : mk_Part_0_rows_outs_doors [r, o, d] h = partR h d o r := by
  rw [← init_v w pd po pr]
  unfold mk_Part_0_rows_outs_doors gc makeM
  simp
theorem part_bad1 {h : MH} {d o r : MV} (b : okI d 1 4 = false) : partR h d o r = .exc "BadNumber" [.str "doors"] h := by
  unfold partR
  rw [b]
  rfl
theorem part_bad2 {h : MH} {d o r : MV} (a : okI d 1 4 = true) (b : okI o 0 6 = false) : partR h d o r = .exc "BadNumber" [.str "outs"] h := by
  unfold partR
  rw [a, b]
  rfl
theorem part_bad3 {h : MH} {d o r : MV} (a : okI d 1 4 = true) (b : okI o 0 6 = true) (c : rowsB h r (iv d) (iv o) = false) : partR h d o r = .exc "BadPart" [.str "rows"] h := by
  unfold partR
  rw [a, b, c]
  rfl
theorem ok_doors {doors : Nat} (h1 : 1 ≤ doors) (h4 : doors ≤ 4) : okI (.int doors) 1 4 = true := by
  unfold okI
  simp
  omega
theorem ok_outs {outs : Nat} (h4 : outs ≤ 6) : okI (.int outs) 0 6 = true := by
  unfold okI
  simp
  omega
theorem refused_ok {cells : List Int} {a l : Int} {t : MH} {doors outs : Nat} {rs : List Row} (h0 : 0 ≤ a) (h1 : a ≤ 1000000) (w : wf (pnO cells a l :: t) = true) (hd1 : 1 ≤ doors) (hd : doors ≤ 4) (ho : outs ≤ 6) (g : GRows doors outs rs) :
    ∃ a' l', f__law_refused [.ref 0, .int doors, .int outs, rowsL rs] (pnO cells a l :: t) = .ok (.bl true) (pnO cells a' l' :: t) ∧ a ≤ a' ∧ a' ≤ a + 7 := by
  obtain ⟨x, a1, l1, e1, m1, b1, c1⟩ := pick_ok (cells := cells) (a := a) (l := l) (t := t) (xs := [.int 0, .int 5, .int (-1), .bl true, .non, .str "1", .lst [.int 1]]) h0 (by omega) (by simp) (by simp)
  obtain ⟨y, a2, l2, e2, m2, b2, c2⟩ := pick_ok (cells := cells) (a := a1) (l := l1) (t := t) (xs := [.int (-1), .int 7, .bl true, .non, .str "0", .tup [.int 0]]) (by omega) (by omega) (by simp) (by simp)
  obtain ⟨v, a3, l3, e3, bv, b3, c3⟩ := wrong_ok (cells := cells) (a := a2) (l := l2) (t := t) (by omega) (by omega) (wf_pn w) hd1 hd ho g
  refine ⟨a3, l3, ?_, by omega, by omega⟩
  have px : okI x 1 4 = false ∧ ∀ h, pl h x = true := by
    simp only [List.mem_cons, List.not_mem_nil, or_false] at m1
    rcases m1 with rfl | rfl | rfl | rfl | rfl | rfl | rfl <;> exact ⟨by decide, fun h => of_decide_eq_true rfl⟩
  have py : okI y 0 6 = false ∧ ∀ h, pl h y = true := by
    simp only [List.mem_cons, List.not_mem_nil, or_false] at m2
    rcases m2 with rfl | rfl | rfl | rfl | rfl | rfl <;> exact ⟨by decide, fun h => of_decide_eq_true rfl⟩
  have od := ok_doors hd1 hd
  have oo := ok_outs ho
  have w3 : wf (pnO cells a3 l3 :: t) = true := wf_pn w
  -- the four answers, on any heap
  let D : MV := .tup [.str "badnumber", .str "doors"]
  let U : MV := .tup [.str "badnumber", .str "outs"]
  let R0 : MV := .tup [.str "badpart", .str "rows"]
  have ws : ∀ (h : MH), wf h = true → wf (h ++ [.lst []]) = true := fun h w => wf_add w rfl
  have k1 : ∀ (h : MH) z, wf h = true → o__law_heard (callE mk_Part_3 (lenA 3 (consA (varE 6) (consA (varE 5) (consA (varE 7) nilA)))) [some (.ref 0), some (.int doors), some (.int outs), some (rowsL rs), z, some y, some x, some v]) h = .ok D h := fun h z w => heard_x (.inl ⟨rfl, rfl⟩) w (by
    have q := part3 (h := h ++ [.lst []]) (d := x) (o := y) (r := v) (ws h w) (px.2 _) (py.2 _) (fun z => by rw [px.1] at z; cases z)
    rw [part_bad1 px.1] at q
    simp [q])
  have k2 : ∀ (h : MH) z, wf h = true → o__law_heard (callE mk_Part_3 (lenA 3 (consA (varE 1) (consA (varE 5) (consA (varE 7) nilA)))) [some (.ref 0), some (.int doors), some (.int outs), some (rowsL rs), z, some y, some x, some v]) h = .ok U h := fun h z w => heard_x (.inl ⟨rfl, rfl⟩) w (by
    have q := part3 (h := h ++ [.lst []]) (d := .int doors) (o := y) (r := v) (ws h w) (by simp) (py.2 _) (fun _ z => by rw [py.1] at z; cases z)
    rw [part_bad2 od py.1] at q
    simp [q])
  have k3 : ∀ (h : MH) z, wf h = true → o__law_heard (callE mk_Part_3 (lenA 3 (consA (varE 1) (consA (varE 2) (consA (varE 7) nilA)))) [some (.ref 0), some (.int doors), some (.int outs), some (rowsL rs), z, some y, some x, some v]) h = .ok R0 h := fun h z w => heard_x (.inr ⟨rfl, rfl⟩) w (by
    have q := part3 (h := h ++ [.lst []]) (d := .int doors) (o := .int outs) (r := v) (ws h w) (by simp) (by simp) (fun _ _ => pl_tree bv.p)
    rw [part_bad3 od oo (bv.b _)] at q
    simp [q])
  have k4 : ∀ (h : MH) z, wf h = true → o__law_heard (callE mk_Part_0_rows_outs_doors (lenA 3 (consA (varE 3) (consA (varE 2) (consA (varE 6) nilA)))) [some (.ref 0), some (.int doors), some (.int outs), some (rowsL rs), z, some y, some x, some v]) h = .ok D h := fun h z w => heard_x (.inl ⟨rfl, rfl⟩) w (by
    have q := part0 (h := h ++ [.lst []]) (d := x) (o := .int outs) (r := rowsL rs) (ws h w) (px.2 _) (by simp) (fun z => by rw [px.1] at z; cases z)
    rw [part_bad1 px.1] at q
    simp [q])
  let H := pnO cells a3 l3 :: t
  have rD : ∀ n, rb n D = true := fun _ => rfl
  have q1 : wf (H ++ [.lst [D]]) = true := wf_add w3 rfl
  have q2 : wf (H ++ [.lst [D, U]]) = true := wf_add w3 rfl
  have q3 : wf (H ++ [.lst [D, U, R0]]) = true := wf_add w3 rfl
  have j1 := app_new (h := H) (xs := [D]) (y := U) (by simp)
  have j2 := app_new (h := H) (xs := [D, U]) (y := R0) (by simp)
  have j3 := app_new (h := H) (xs := [D, U, R0]) (y := D) (by simp)
  have ef : eqX (.ref H.length) (.lst [D, U, R0, D]) (H ++ [.lst [D, U, R0, D]]) = .ok (.bl true) (H ++ [.lst [D, U, R0, D]]) := by
    have g1 : (H ++ [MO.lst [D, U, R0, D]])[H.length]? = some (.lst [D, U, R0, D]) := get_new
    exact (eqK_pl (pl_ref g1) (of_decide_eq_true rfl)).1.trans (eq_ref g1 rfl (by decide +kernel) (by decide +kernel))
  unfold f__law_refused defM gc bodyM s__law_refused startM
  have n1 := k1 H none w3
  have n2 := k2 _ (some (.ref H.length)) q1
  have n3 := k3 _ (some (.ref H.length)) q2
  have n4 := k4 _ (some (.ref H.length)) q3
  have lH : H.length = t.length + 1 := rfl
  have i1 : isL (H ++ [.lst [D]]) (.ref H.length) = true := isL_new
  have i2 : isL (H ++ [.lst [D, U]]) (.ref H.length) = true := isL_new
  have i3 : isL (H ++ [.lst [D, U, R0]]) (.ref H.length) = true := isL_new
  simp only [List.append_eq, List.append_assoc, List.cons_append, List.nil_append, H, D, U, R0, List.length_cons] at n1 n2 n3 n4 j1 j2 j3 ef i1 i2 i3
  simp [e1, e2, e3, n1, n2, n3, n4, j1, j2, j3, ef, i1, i2, i3]
  exact gc_app' (h := pnO cells a3 l3 :: t) rfl w3 rfl
end K03

set_option Elab.async false
set_option linter.all false
set_option maxRecDepth 100000
set_option maxHeartbeats 4000000
namespace K03
open PySem PySem.Spec PyProof.Rows L2 DL M
open PySem.W (Datum Tup)
def partV (d o : Nat) (rs : List Row) : MV := .ins "Part" [.int d, .int o, rowsT' rs, .int rs.length]
theorem part_good {h : MH} {v : MV} {d o : Nat} {rs : List Row} (w : wf h = true) (i : isRows h v rs) (p : plR h v) (g : GRows d o rs) (h1 : 1 ≤ d) (h4 : d ≤ 4) (h6 : o ≤ 6) : mk_Part_3 [.int d, .int o, v] h = .ok (partV d o rs) h ∧ mk_Part_0_rows_outs_doors [v, .int o, .int d] h = .ok (partV d o rs) h := by
  obtain ⟨q1, q2, q3⟩ := rows_good i g
  have e : partR h (.int d) (.int o) v = .ok (partV d o rs) h := by
    unfold partR
    rw [ok_doors h1 h4, ok_outs h6]
    simp only [iv_i, q1, q2, q3]
    rfl
  rw [part3 w (by simp) (by simp) fun _ _ => p, part0 w (by simp) (by simp) fun _ _ => p]
  exact ⟨e, e⟩
theorem GOne.up {m m' o : Nat} {p : Int × List Int} (g : GOne m o p) (h : m ≤ m') : GOne m' o p := ⟨g.h0, by have := g.h1; omega, g.hl, g.hv⟩
theorem GRow.up {d m m' o : Nat} {r : Row} (g : GRow d m o r) (h : m ≤ m') : GRow d m' o r := ⟨g.hl, fun p q => (g.hv p q).up h⟩
/-- a part that is not this one -/
def GP (doors outs : Nat) (rs : List Row) (v : MV) : Prop := ∃ d o rs', v = partV d o rs' ∧ pt (rowsT' rs') = true ∧ ¬ (d = doors ∧ o = outs ∧ rs' = rs)
theorem GP.rb {doors outs : Nat} {rs : List Row} {v : MV} {n : Nat} (g : GP doors outs rs v) : rb n v = true := by
  obtain ⟨d, o, rs', rfl, p, _⟩ := g
  unfold partV
  refine rbs_all fun x m => ?_
  simp at m
  rcases m with rfl | rfl | rfl | rfl
  · rfl
  · rfl
  · exact pt_rb p
  · rfl
theorem set_row {rs : List Row} {at_ door : Nat} {r : Row} {p' : Int × List Int} : (.lst ((rs.map rowL).set at_ (.lst ((r.map oneL).set door (oneL p')))) : MV) = rowsL (rs.set at_ (r.set door p')) := by
  unfold rowsL
  rw [List.map_set]
  unfold rowL
  rw [List.map_set]
theorem grows_set {d o at_ door : Nat} {rs : List Row} {r : Row} {p' : Int × List Int} (g : GRows d o rs) (hr : rs[at_]? = some r) (gp : GOne rs.length o p') : GRows d o (rs.set at_ (r.set door p')) := by
  refine ⟨by rw [List.length_set]; exact g.h1, by rw [List.length_set]; exact g.h4, fun x m => ?_⟩
  rw [List.length_set]
  rcases List.mem_or_eq_of_mem_set m with m | rfl
  · exact g.hv x m
  · have gr := g.hv r (List.mem_of_getElem? hr)
    refine ⟨by rw [List.length_set]; exact gr.hl, fun q m => ?_⟩
    rcases List.mem_or_eq_of_mem_set m with m | rfl
    · exact gr.hv q m
    · exact gp
theorem set_ne {rs : List Row} {at_ door : Nat} {r : Row} {p p' : Int × List Int} (hr : rs[at_]? = some r) (hp : r[door]? = some p) (n : p' ≠ p) : rs.set at_ (r.set door p') ≠ rs := by
  intro e
  have e1 : (rs.set at_ (r.set door p'))[at_]? = rs[at_]? := congrArg (fun l : List Row => l[at_]?) e
  rw [List.getElem?_set_self (List.getElem?_eq_some_iff.mp hr).1, hr] at e1
  have e2 : (r.set door p')[door]? = r[door]? := congrArg (fun l : Row => l[door]?) (Option.some.inj e1)
  rw [List.getElem?_set_self (List.getElem?_eq_some_iff.mp hp).1, hp] at e2
  exact n (Option.some.inj e2)
def so1 : SF := (parS 3 (consA (callE (ordM [0] [] f__law_copy) (lenA 1 (consA (varE 3) nilA))) (consA (callE (ordM [0, 1] [] f__law_draw) (lenA 2 (consA (varE 0) (consA (callE lenM (consA (varE 3) nilA)) nilA)))) (consA (callE (ordM [0, 1] [] f__law_draw) (lenA 2 (consA (varE 0) (consA (varE 1) nilA)))) nilA))) (consG (nameG 4) (consG (nameG 5) (consG (nameG 6) nilG))))
def so2 : SF := (asgS (lstE true (consA (callE mk_Part_3 (lenA 3 (consA (varE 1) (consA (varE 2) (consA (binE (addM false) (varE 3) (slE false (varE 3) noO (someO (retE (.int 1))))) nilA))))) nilA)) (nameG 7))
def so3 : SF := (ifS (testT (binE gtM (varE 2) (retE (.int 0)))) (seqS (asgS (ifE (testT (binE ltM (binE ixM (binE ixM (binE ixM (binE ixM (varE 4) (varE 5)) (varE 6)) (retE (.int 1))) (retE (.int 0))) (retE (.int 5)))) (binE (addM false) (binE ixM (binE ixM (binE ixM (binE ixM (varE 4) (varE 5)) (varE 6)) (retE (.int 1))) (retE (.int 0))) (retE (.int 1))) (binE subM (binE ixM (binE ixM (binE ixM (binE ixM (varE 4) (varE 5)) (varE 6)) (retE (.int 1))) (retE (.int 0))) (retE (.int 1)))) (subG (binE ixM (binE ixM (binE ixM (varE 4) (varE 5)) (varE 6)) (retE (.int 1))) (retE (.int 0)))) (frzDS 4 (exprS (methE isL appM (varE 7) (consA (callE mk_Part_3 (lenA 3 (consA (varE 1) (consA (varE 2) (consA (varE 4) nilA))))) nilA))))) skipS)
def so4 : SF := (ifS (testT (binE gtM (callE lenM (consA (varE 3) nilA)) (retE (.int 1)))) (seqS (asgS (callE (ordM [0] [] f__law_copy) (lenA 1 (consA (varE 3) nilA))) (nameG 4)) (seqS (asgS (binE modM (callE int1M (consA (binE (addM false) (binE ixM (binE ixM (binE ixM (varE 4) (varE 5)) (varE 6)) (retE (.int 0))) (retE (.int 1))) nilA)) (callE lenM (consA (varE 3) nilA))) (subG (binE ixM (binE ixM (varE 4) (varE 5)) (varE 6)) (retE (.int 0)))) (frzDS 4 (exprS (methE isL appM (varE 7) (consA (callE mk_Part_3 (lenA 3 (consA (varE 1) (consA (varE 2) (consA (varE 4) nilA))))) nilA)))))) skipS)
def so5 : SF := (ifS (testT (binE ltM (varE 2) (retE (.int 6)))) (exprS (methE isL appM (varE 7) (consA (callE mk_Part_3 (lenA 3 (consA (varE 1) (consA (binE (addM false) (varE 2) (retE (.int 1))) (consA (lcE false (seqIt (varE 3)) (CT.one 9) yesT e__law_other_11_2 [8, 9]) nilA))))) nilA))) skipS)
def so6 : SF := (frzS 7 (retS (ifE (testT (binE ltM (varE 1) (retE (.int 4)))) (binE (addM false) (varE 7) (lstE false (consA (callE mk_Part_3 (lenA 3 (consA (binE (addM false) (varE 1) (retE (.int 1))) (consA (varE 2) (consA (lcE false (seqIt (varE 3)) (CT.one 9) yesT e__law_other_12 [8, 9]) nilA))))) nilA))) (varE 7))))
theorem so_eq : s__law_other = (seqS so1 (seqS so2 (seqS so3 (seqS so4 (seqS so5 so6))))) := rfl
section
variable {b s : MH} {K at_ door doors outs : Nat} {rs : List Row} {r : Row} {p : Int × List Int} {Ps : List MV}
/-- the counts of a copy are changed in one place -/
theorem phase3 {j lo hi : Nat} (g : GRows doors outs rs) (hd1 : 1 ≤ doors) (hd : doors ≤ 4) (ho : outs ≤ 6) (hr : rs[at_]? = some r) (hp : r[door]? = some p) (w : wf (b ++ s) = true) (o : Own true (b ++ s) 9 lo hi (.ref j) (rowsL rs)) (hb : b.length ≤ lo) (hk : hi ≤ K) (eK : (b ++ s)[K]? = some (.lst Ps)) (lP : Ps.length < 100) :
    ∃ x s' Qs, so3 [some (.ref 0), some (.int doors), some (.int outs), some (rowsL rs), some (.ref j), some (.int at_), some (.int door), some (.ref K), none, none, none] (b ++ s) = .next [some (.ref 0), some (.int doors), some (.int outs), some (rowsL rs), x, some (.int at_), some (.int door), some (.ref K), none, none, none] (b ++ s') ∧ (b ++ s')[K]? = some (.lst (Ps ++ Qs)) ∧ wf (b ++ s') = true ∧ Qs.length ≤ 1 ∧ ∀ q ∈ Qs, GP doors outs rs q := by
  by_cases hz : outs = 0
  · refine ⟨some (.ref j), s, [], ?_, by simpa using eK, w, by simp, fun _ m => nomatch m⟩
    unfold so3
    simp [show ¬ 0 < outs by omega]
  have gr := g.hv r (List.mem_of_getElem? hr)
  have gp := gr.hv p (List.mem_of_getElem? hp)
  have kr : ((rs.map rowL)[at_]?) = some (.lst (r.map oneL)) := by rw [List.getElem?_map, hr]; rfl
  have kp : ((r.map oneL)[door]?) = some (.lst [.int p.1, .lst (p.2.map .int)]) := by rw [List.getElem?_map, hp]; rfl
  obtain ⟨c, cs, hc⟩ : ∃ c cs, p.2 = c :: cs := by
    have := gp.hl
    cases hq : p.2 with
    | nil =>
      rw [hq] at this
      simp at this
      omega
    | cons c cs => exact ⟨c, cs, rfl⟩
  have gc := gp.hv c (by rw [hc]; exact List.mem_cons_self)
  let c' : Int := if c < 5 then c + 1 else c - 1
  have hc' : c' ≠ c ∧ 0 ≤ c' ∧ c' ≤ 1000000000000 := by
    show (if c < 5 then c + 1 else c - 1) ≠ c ∧ 0 ≤ (if c < 5 then c + 1 else c - 1) ∧ (if c < 5 then c + 1 else c - 1) ≤ 1000000000000
    split <;> omega
  obtain ⟨i1, lo1, hi1, ⟨q1, _⟩, q2, q3, q4, q5⟩ := own_at (n := 7) o kr
  obtain ⟨i2, lo2, hi2, ⟨u1, _⟩, u2, u3, u4, u5⟩ := own_at (n := 6) q4 kp
  obtain ⟨i3, lo3, hi3, ⟨v1, _⟩, v2, v3, v4, v5⟩ := own_at (n := 5) (k := 1) (us := p.2.map .int) u4 rfl
  have v0 : ixM (.ref i3) (.int 0) (b ++ s) = .ok (.int c) (b ++ s) := own_at0 (n := 4) (k := 0) v4 (by rw [hc]; rfl) (fun us z => by cases z)
  obtain ⟨s2, p1, p2, p3, p4⟩ := own_put (n := 4) (b := b) (s := s) (k := 0) (v := .int c') v4 (by omega) (by rw [hc]; simp) rfl
  have o2 := q5 _ _ (fun i x y z => p3 i (by omega)) (u5 _ _ (fun i x y z => p3 i (by omega)) (v5 _ _ (fun i x y z => p3 i z) p4))
  have eT : (.lst ((rs.map rowL).set at_ (.lst ((r.map oneL).set door (.lst ([.int p.1, .lst (p.2.map .int)].set 1 (.lst ((p.2.map MV.int).set 0 (.int c')))))))) : MV) = rowsL (rs.set at_ (r.set door (p.1, p.2.set 0 c'))) := by
    rw [← set_row]
    unfold oneL
    rw [List.map_set]
    rfl
  rw [eT] at o2
  have w2 : wf (b ++ s2) = true := by
    obtain ⟨h', e1, e2, e3, e4, xs, e5, ys, e6, e7⟩ := v4.put (k := 0) (v := .int c') (by rw [hc]; simp) rfl
    rw [p1] at e1
    cases e1
    rw [e5]
    refine wf_set w ?_
    have r0 := wf_iff.mp w _ _ e6
    rw [e7]
    have : ∀ {n : Nat} {ys : List MV}, rbs n ys = true → rbs n (ys.set 0 (.int c')) = true := by
      intro n ys q
      cases ys with
      | nil => rfl
      | cons y ys =>
        unfold rbs at q
        rw [Bool.and_eq_true] at q
        exact q.2
    exact this r0
  have g2 : GRows doors outs (rs.set at_ (r.set door (p.1, p.2.set 0 c'))) := grows_set g hr ⟨gp.h0, gp.h1, by rw [List.length_set]; exact gp.hl, fun x m => by
    rcases List.mem_or_eq_of_mem_set m with m | rfl
    · exact gp.hv x m
    · exact hc'.2⟩
  obtain ⟨s3, f1, f2, f3, f4⟩ := frzDS_ev (b := b) (s := s2) (i := 4) (μ := [some (.ref 0), some (.int doors), some (.int outs), some (rowsL rs), some (.ref j), some (.int at_), some (.int door), some (.ref K), none, none, none]) rfl o2 hb
  have w3 : wf (b ++ s3) = true := wf_frz w2 (by rw [List.length_append, List.length_append, f2]) f4
  have e3 : (b ++ s3)[K]? = some (.lst Ps) := by rw [f3 K (.inr hk), p3 K (.inr (by omega))]; exact eK
  have pg := (part_good w3 isRows_L (pl_tree (pt_rowsL (by omega) (by omega) g2)) g2 hd1 hd ho).1
  have hK := (List.getElem?_eq_some_iff.mp e3).1
  have bK : b.length ≤ K := by have := q3; have := Own.le q4; omega
  have gq : GP doors outs rs (partV doors outs (rs.set at_ (r.set door (p.1, p.2.set 0 c')))) := ⟨_, _, _, rfl, pt_rowsT (by omega) (by omega) g2, fun z => set_ne hr hp (by
    intro z
    have z := congrArg (fun q => q.2) z
    dsimp only at z
    rw [hc] at z
    exact hc'.1 (List.cons.inj z).1) z.2.2⟩
  have ap := app_at (y := partV doors outs (rs.set at_ (r.set door (p.1, p.2.set 0 c')))) e3 (by omega)
  refine ⟨some (rowsL (rs.set at_ (r.set door (p.1, p.2.set 0 c')))), s3.set (K - b.length) (.lst (Ps ++ [partV doors outs (rs.set at_ (r.set door (p.1, p.2.set 0 c')))])), [partV doors outs (rs.set at_ (r.set door (p.1, p.2.set 0 c')))], ?_, ?_, ?_, by simp, fun q m => by rw [List.mem_singleton] at m; subst m; exact gq⟩
  · have hcc : (if c < 5 then (R.ok (MV.int (c + 1)) (b ++ s)) else R.ok (MV.int (c - 1)) (b ++ s)) = R.ok (MV.int c') (b ++ s) := by
      show _ = R.ok (MV.int (if c < 5 then c + 1 else c - 1)) (b ++ s)
      split <;> rfl
    rw [List.set_append_right _ _ bK] at ap
    simp only [Int.natCast_zero] at p1
    have il := isL_at e3
    have v1' : ixM (.ref i2) (.int 1) (b ++ s) = .ok (.ref i3) (b ++ s) := v1
    simp at f1
    unfold so3
    simp [show 0 < outs by omega, q1, u1, v1', v0, hcc, p1, f1, pg, il, ap]
  · rw [← List.set_append_right _ _ bK, List.getElem?_set_self hK]
  · rw [← List.set_append_right _ _ bK]
    refine wf_set w3 ?_
    have r0 := wf_iff.mp w3 _ _ e3
    refine rbs_all fun x m => ?_
    rcases List.mem_append.mp m with m | m
    · have : ∀ {ys : List MV}, rbs (b ++ s3).length ys = true → x ∈ ys → rb (b ++ s3).length x = true := by
        intro ys
        induction ys with
        | nil => exact fun _ m => nomatch m
        | cons y ys ih =>
          intro q m
          unfold rbs at q
          rw [Bool.and_eq_true] at q
          rcases List.mem_cons.mp m with rfl | m
          · exact q.1
          · exact ih q.2 m
      exact this r0 m
    · rw [List.mem_singleton] at m
      subst m
      exact gq.rb
end
end K03

set_option Elab.async false
set_option linter.all false
set_option maxRecDepth 100000
set_option maxHeartbeats 4000000
namespace K03
open PySem PySem.Spec PyProof.Rows L2 DL M
open PySem.W (Datum Tup)
theorem rbs_mem {n : Nat} {x : MV} : ∀ {ys : List MV}, rbs n ys = true → x ∈ ys → rb n x = true
  | [], _, m => nomatch m
  | y :: ys, q, m => by
    unfold rbs at q
    rw [Bool.and_eq_true] at q
    rcases List.mem_cons.mp m with rfl | m
    · exact q.1
    · exact rbs_mem q.2 m
theorem wf_at {h : MH} {i : Nat} {xs : List MV} (w : wf h = true) (e : h[i]? = some (.lst xs)) : ∀ x ∈ xs, rb h.length x = true := fun x m => rbs_mem (wf_iff.mp w _ _ e) m
theorem wf_setl {h : MH} {i : Nat} {xs : List MV} (w : wf h = true) (e : ∀ x ∈ xs, rb h.length x = true) : wf (h.set i (.lst xs)) = true := wf_set w (rbs_all e)
/-- a part joins the others -/
theorem join {b s : MH} {K : Nat} {Ps : List MV} {q : MV} {doors outs : Nat} {rs : List Row} (bK : b.length ≤ K) (w : wf (b ++ s) = true) (e : (b ++ s)[K]? = some (.lst Ps)) (lP : Ps.length < 100) (gq : GP doors outs rs q) :
    ∃ s', appM (.ref K) [q] (b ++ s) = .ok .non (b ++ s') ∧ (b ++ s')[K]? = some (.lst (Ps ++ [q])) ∧ wf (b ++ s') = true := by
  have hK := (List.getElem?_eq_some_iff.mp e).1
  have ap := app_at (y := q) e (by omega)
  rw [List.set_append_right _ _ bK] at ap
  refine ⟨_, ap, ?_, ?_⟩
  · rw [← List.set_append_right _ _ bK, List.getElem?_set_self hK]
  · rw [← List.set_append_right _ _ bK]
    refine wf_setl w fun x m => ?_
    rcases List.mem_append.mp m with m | m
    · exact wf_at w e x m
    · rw [List.mem_singleton] at m
      subst m
      exact gq.rb
section
variable {b s : MH} {K at_ door doors outs : Nat} {rs : List Row} {r : Row} {p : Int × List Int} {Ps : List MV}
theorem phase4 {x : Option MV} (g : GRows doors outs rs) (hd1 : 1 ≤ doors) (hd : doors ≤ 4) (ho : outs ≤ 6) (hr : rs[at_]? = some r) (hp : r[door]? = some p) (w : wf (b ++ s) = true) (bK : b.length ≤ K) (eK : (b ++ s)[K]? = some (.lst Ps)) (lP : Ps.length < 100) :
    ∃ x' s' Qs, so4 [some (.ref 0), some (.int doors), some (.int outs), some (rowsL rs), x, some (.int at_), some (.int door), some (.ref K), none, none, none] (b ++ s) = .next [some (.ref 0), some (.int doors), some (.int outs), some (rowsL rs), x', some (.int at_), some (.int door), some (.ref K), none, none, none] (b ++ s') ∧ (b ++ s')[K]? = some (.lst (Ps ++ Qs)) ∧ wf (b ++ s') = true ∧ Qs.length ≤ 1 ∧ ∀ q ∈ Qs, GP doors outs rs q := by
  have hlen : ∀ h, lenM [rowsL rs] h = .ok (.int rs.length) h := fun h => by unfold rowsL; rw [len_l, List.length_map]
  by_cases hn : 1 < rs.length
  · have gr := g.hv r (List.mem_of_getElem? hr)
    have gp := gr.hv p (List.mem_of_getElem? hp)
    have kr : ((rs.map rowL)[at_]?) = some (.lst (r.map oneL)) := by rw [List.getElem?_map, hr]; rfl
    have kp : ((r.map oneL)[door]?) = some (.lst [.int p.1, .lst (p.2.map .int)]) := by rw [List.getElem?_map, hp]; rfl
    obtain ⟨j, s1, e1, o, w1⟩ := copy_ok g (by omega) w
    have hK := (List.getElem?_eq_some_iff.mp eK).1
    have e1' : f__law_copy [rowsL rs] (b ++ s) = .ok (.ref j) (b ++ (s ++ s1)) := by rw [e1, List.append_assoc]
    rw [List.append_assoc] at o w1
    have eK1 : (b ++ (s ++ s1))[K]? = some (.lst Ps) := by rw [← List.append_assoc]; exact get_app eK
    have g0 := gp.h0
    have g1 := gp.h1
    let c' : Int := (p.1 + 1).fmod rs.length
    have hc' : c' ≠ p.1 ∧ 0 ≤ c' ∧ c' < rs.length := by
      show (p.1 + 1).fmod rs.length ≠ p.1 ∧ 0 ≤ (p.1 + 1).fmod rs.length ∧ (p.1 + 1).fmod rs.length < rs.length
      rw [Int.fmod_eq_emod_of_nonneg _ (by omega)]
      by_cases hl : p.1 + 1 < rs.length
      · rw [Int.emod_eq_of_lt (by omega) hl]
        omega
      · rw [show p.1 + 1 = (rs.length : Int) by omega, Int.emod_self]
        omega
    obtain ⟨i1, lo1, hi1, ⟨q1, _⟩, q2, q3, q4, q5⟩ := own_at (n := 7) o kr
    obtain ⟨i2, lo2, hi2, ⟨u1, _⟩, u2, u3, u4, u5⟩ := own_at (n := 6) q4 kp
    have v0 : ixM (.ref i2) (.int 0) (b ++ (s ++ s1)) = .ok (.int p.1) (b ++ (s ++ s1)) := own_at0 (n := 5) (k := 0) u4 rfl (fun us z => by cases z)
    have bl : b.length ≤ (b ++ s).length := by rw [List.length_append]; omega
    obtain ⟨s2, p1, p2, p3, p4⟩ := own_put (n := 5) (b := b) (s := s ++ s1) (k := 0) (v := .int c') u4 (by omega) (by simp) rfl
    have o2 := q5 _ _ (fun i x y z => p3 i (by omega)) (u5 _ _ (fun i x y z => p3 i z) p4)
    have eT : (.lst ((rs.map rowL).set at_ (.lst ((r.map oneL).set door (.lst ([.int p.1, .lst (p.2.map .int)].set 0 (.int c')))))) : MV) = rowsL (rs.set at_ (r.set door (c', p.2))) := by
      rw [← set_row]
      rfl
    rw [eT] at o2
    have w2 : wf (b ++ s2) = true := by
      obtain ⟨h', e1, e2, e3, e4, xs, e5, ys, e6, e7⟩ := u4.put (k := 0) (v := .int c') (by simp) rfl
      rw [p1] at e1
      cases e1
      rw [e5]
      refine wf_setl w1 fun x m => ?_
      rw [e7] at m
      rcases List.mem_or_eq_of_mem_set m with m | rfl
      · exact wf_at w1 e6 x m
      · rfl
    have g2 : GRows doors outs (rs.set at_ (r.set door (c', p.2))) := grows_set g hr ⟨hc'.2.1, hc'.2.2, gp.hl, gp.hv⟩
    obtain ⟨s3, f1, f2, f3, f4⟩ := frzDS_ev (b := b) (s := s2) (i := 4) (μ := [some (.ref 0), some (.int doors), some (.int outs), some (rowsL rs), some (.ref j), some (.int at_), some (.int door), some (.ref K), none, none, none]) rfl o2 bl
    have w3 : wf (b ++ s3) = true := wf_frz w2 (by rw [List.length_append, List.length_append, f2]) f4
    have e3 : (b ++ s3)[K]? = some (.lst Ps) := by rw [f3 K (.inl hK), p3 K (.inl (by omega))]; exact eK1
    have pg := (part_good w3 isRows_L (pl_tree (pt_rowsL (by omega) (by omega) g2)) g2 hd1 hd ho).1
    have gq : GP doors outs rs (partV doors outs (rs.set at_ (r.set door (c', p.2)))) := ⟨_, _, _, rfl, pt_rowsT (by omega) (by omega) g2, fun z => set_ne hr hp (by
      intro z
      exact hc'.1 (congrArg (fun q => q.1) z)) z.2.2⟩
    obtain ⟨s4, j1, j2, j3⟩ := join bK w3 e3 lP gq
    refine ⟨some (rowsL (rs.set at_ (r.set door (c', p.2)))), s4, [_], ?_, j2, j3, by simp, fun q m => by rw [List.mem_singleton] at m; subst m; exact gq⟩
    have il := isL_at e3
    have p1' : setM (.ref i2) (.int 0) (.int ((p.1 + 1).fmod rs.length)) (b ++ (s ++ s1)) = some (b ++ s2) := p1
    simp at f1
    unfold so4
    simp [hlen, show (1 : Int) < rs.length by omega, e1', q1, u1, v0, show (rs.length : Int) ≠ 0 by omega, show ¬ rs = [] by intro z; rw [z] at hn; simp at hn, p1', f1, pg, il, j1]
  · refine ⟨x, s, [], ?_, by simpa using eK, w, by simp, fun _ m => nomatch m⟩
    unfold so4
    simp [hlen, hn]
    omega
theorem phase5 {x : Option MV} (g : GRows doors outs rs) (hd1 : 1 ≤ doors) (hd : doors ≤ 4) (w : wf (b ++ s) = true) (bK : b.length ≤ K) (eK : (b ++ s)[K]? = some (.lst Ps)) (lP : Ps.length < 100) :
    ∃ s' Qs, so5 [some (.ref 0), some (.int doors), some (.int outs), some (rowsL rs), x, some (.int at_), some (.int door), some (.ref K), none, none, none] (b ++ s) = .next [some (.ref 0), some (.int doors), some (.int outs), some (rowsL rs), x, some (.int at_), some (.int door), some (.ref K), none, none, none] (b ++ s') ∧ (b ++ s')[K]? = some (.lst (Ps ++ Qs)) ∧ wf (b ++ s') = true ∧ Qs.length ≤ 1 ∧ ∀ q ∈ Qs, GP doors outs rs q := by
  by_cases ho : outs < 6
  · let f : Int × List Int → Int × List Int := fun p => (p.1, p.2 ++ [0])
    have g4 := g.h4
    have g2 : GRows doors (outs + 1) (rs.map fun r => r.map f) := ⟨by rw [List.length_map]; exact g.h1, by rw [List.length_map]; exact g.h4, fun x m => by
      obtain ⟨r, mr, rfl⟩ := List.mem_map.mp m
      have gr := g.hv r mr
      refine ⟨by rw [List.length_map]; exact gr.hl, fun p m => ?_⟩
      obtain ⟨p, mp, rfl⟩ := List.mem_map.mp m
      have gp := gr.hv p mp
      rw [List.length_map]
      refine ⟨gp.h0, gp.h1, by show (p.2 ++ [0]).length = _; rw [List.length_append, gp.hl]; rfl, fun x m => ?_⟩
      rcases List.mem_append.mp m with m | m
      · exact gp.hv x m
      · rw [List.mem_singleton] at m
        subst m
        omega⟩
    have e : ∀ r ∈ rs, e__law_other_11_2 [some (.ref 0), some (.int doors), some (.int outs), some (rowsL rs), x, some (.int at_), some (.int door), some (.ref K), none, some (rowL r), none] (b ++ s) = .ok (rowL (r.map f)) (b ++ s) := fun r m => by
      have e := lc_mapD (mi := seqI (rowL r)) (as := r) (g := oneL) (f := fun p => oneL (f p)) (h := b ++ s) (μ := [some (.ref 0), some (.int doors), some (.int outs), some (rowsL rs), x, some (.int at_), some (.int door), some (.ref K), none, some (rowL r), none]) (i := 10) (e := e__law_other_11) (its_h (its_lst _)) (by rw [(g.hv r m).hl]; omega) fun p mp => by
        have hl := ((g.hv r m).hv p mp).hl
        unfold e__law_other_11 oneL
        simp [f, show p.2.length + 1 ≤ LIM by have : LIM = 1000000 := rfl; omega]
      unfold e__law_other_11_2
      unfold rowL at e ⊢
      simp [e, f]
    have e2 := lc_mapD (mi := seqI (rowsL rs)) (as := rs) (g := rowL) (f := fun r => rowL (r.map f)) (h := b ++ s) (μ := [some (.ref 0), some (.int doors), some (.int outs), some (rowsL rs), x, some (.int at_), some (.int door), some (.ref K), none, none, none]) (i := 9) (e := e__law_other_11_2) (its_h (its_lst _)) (by omega) fun r m => by
      simpa using e r m
    have eR : (MV.lst (rs.map fun r => rowL (r.map f))) = rowsL (rs.map fun r => r.map f) := by unfold rowsL; rw [List.map_map]; rfl
    have pg := (part_good w isRows_L (pl_tree (pt_rowsL (by omega) (by omega) g2)) g2 hd1 hd (by omega)).1
    have gq : GP doors outs rs (partV doors (outs + 1) (rs.map fun r => r.map f)) := ⟨_, _, _, rfl, pt_rowsT (by omega) (by omega) g2, fun z => by omega⟩
    obtain ⟨s4, j1, j2, j3⟩ := join bK w eK lP gq
    refine ⟨s4, [_], ?_, j2, j3, by simp, fun q m => by rw [List.mem_singleton] at m; subst m; exact gq⟩
    have il := isL_at eK
    have se : seqK (rowsL rs) (b ++ s) = .ok (seqI (rowsL rs)) (b ++ s) := seqK_sq rfl
    rw [← eR] at pg
    unfold so5
    simp at pg
    simp [show (outs : Int) < 6 by omega, il, se, e2, pg, j1]
  · refine ⟨s, [], ?_, by simpa using eK, w, by simp, fun _ m => nomatch m⟩
    unfold so5
    simp [show ¬ (outs : Int) < 6 by omega]
end
end K03

set_option Elab.async false
set_option linter.all false
set_option maxRecDepth 100000
set_option maxHeartbeats 4000000
namespace K03
open PySem PySem.Spec PyProof.Rows L2 DL M
open PySem.W (Datum Tup)
theorem other_ok {cells : List Int} {a l : Int} {t : MH} {doors outs : Nat} {rs : List Row} (h0 : 0 ≤ a) (h1 : a ≤ 1040000) (w : wf (pnO cells a l :: t) = true) (hd1 : 1 ≤ doors) (hd : doors ≤ 4) (ho : outs ≤ 6) (g : GRows doors outs rs) (hn : rs.length ≤ 12) :
    ∃ vs a' l', f__law_other [.ref 0, .int doors, .int outs, rowsL rs] (pnO cells a l :: t) = .ok (.lst vs) (pnO cells a' l' :: t) ∧ vs.length ≤ 5 ∧ (∀ v ∈ vs, GP doors outs rs v) ∧ a ≤ a' ∧ a' ≤ a + 2 := by
  have g1 := g.h1
  have g4 := g.h4
  have hlen : ∀ h, lenM [rowsL rs] h = .ok (.int rs.length) h := fun h => by unfold rowsL; rw [len_l, List.length_map]
  obtain ⟨j, s, e1, o1, w1⟩ := copy_ok g (by omega : doors ≤ 10) w
  obtain ⟨at_, a1, l1, e2, r2, b1, c1⟩ := draw_nat (cells := cells) (a := a) (l := l) (t := t ++ s) (many := rs.length) h0 (by omega) g1 (by omega)
  obtain ⟨door, a2, l2, e3, r3, b2, c2⟩ := draw_nat (cells := cells) (a := a1) (l := l1) (t := t ++ s) (many := doors) (by omega) (by omega) hd1 (by omega)
  have er : rs[at_]? = some rs[at_] := List.getElem?_eq_getElem r2
  generalize hr : rs[at_] = r at er
  have gr := g.hv r (List.mem_of_getElem? er)
  have ep : r[door]? = some (r[door]'(by rw [gr.hl]; exact r3)) := List.getElem?_eq_getElem _
  generalize hp : r[door]'(by rw [gr.hl]; exact r3) = p at ep
  have w2 : wf (pnO cells a2 l2 :: t ++ s) = true := wf_pn (a := a) (l := l) w1
  have o2 : Own true (pnO cells a2 l2 :: t ++ s) 9 (t.length + 1) (t.length + 1 + s.length) (.ref j) (rowsL rs) := by
    have o2 := o1.fr (h' := pnO cells a2 l2 :: (t ++ s)) fun i p q => by
      cases i with
      | zero => exact absurd p (by simp)
      | succ i => rfl
    simpa [Nat.add_right_comm] using o2
  have q1 : so1 (startM 11 [.ref 0, .int doors, .int outs, rowsL rs]) (pnO cells a l :: t) = .next [some (.ref 0), some (.int doors), some (.int outs), some (rowsL rs), some (.ref j), some (.int at_), some (.int door), none, none, none, none] (pnO cells a2 l2 :: t ++ s) := by
    simp at e1 e2 e3
    unfold so1 startM
    simp [e1, hlen, e2, e3]
  generalize hb : pnO cells a2 l2 :: t = b at *
  have lb : b.length = t.length + 1 := by rw [← hb]; rfl
  -- the first other: one row more
  have g2 : GRows doors outs (rs ++ rs.take 1) := ⟨by rw [List.length_append]; omega, by rw [List.length_append, List.length_take]; omega, fun x m => by
    rw [List.length_append]
    rcases List.mem_append.mp m with m | m
    · exact (g.hv x m).up (by omega)
    · exact (g.hv x (List.mem_of_mem_take m)).up (by omega)⟩
  have pg := (part_good w2 isRows_L (pl_tree (pt_rowsL (by omega) (by omega) g2)) g2 hd1 hd ho).1
  have gq1 : GP doors outs rs (partV doors outs (rs ++ rs.take 1)) := ⟨_, _, _, rfl, pt_rowsT (by omega) (by omega) g2, fun z => by
    have := congrArg List.length z.2.2
    rw [List.length_append, List.length_take] at this
    omega⟩
  have q2 : so2 [some (.ref 0), some (.int doors), some (.int outs), some (rowsL rs), some (.ref j), some (.int at_), some (.int door), none, none, none, none] (b ++ s) = .next [some (.ref 0), some (.int doors), some (.int outs), some (rowsL rs), some (.ref j), some (.int at_), some (.int door), some (.ref (b ++ s).length), none, none, none] (b ++ (s ++ [.lst [partV doors outs (rs ++ rs.take 1)]])) := by
    have cu : ∀ lo hi h, slM false (rowsL rs) lo hi h = .ok (.lst (cutM (rs.map rowL) lo hi)) h := fun lo hi h => sl_l
    have ad : ∀ h, addM false (rowsL rs) (.lst ((rs.map rowL).take 1)) h = .ok (rowsL (rs ++ rs.take 1)) h := fun h => by
      unfold rowsL
      rw [add_ll, if_pos (by have : LIM = 1000000 := rfl; simp; omega), List.map_append, List.map_take]
      rfl
    unfold so2
    simp [cu, ad, pg]
  have w3 : wf (b ++ (s ++ [.lst [partV doors outs (rs ++ rs.take 1)]])) = true := by
    rw [← List.append_assoc]
    exact wf_add w2 (rbs_all fun x m => by
      rw [List.mem_singleton] at m
      subst m
      exact gq1.rb)
  have eK : (b ++ (s ++ [.lst [partV doors outs (rs ++ rs.take 1)]]))[(b ++ s).length]? = some (.lst [partV doors outs (rs ++ rs.take 1)]) := by
    rw [← List.append_assoc]
    exact get_new
  have o3 : Own true (b ++ (s ++ [.lst [partV doors outs (rs ++ rs.take 1)]])) 9 (t.length + 1) (t.length + 1 + s.length) (.ref j) (rowsL rs) := by
    rw [← List.append_assoc]
    exact o2.fr fun i _ q => app_fr (by rw [List.length_append]; omega)
  have bK : b.length ≤ (b ++ s).length := by rw [List.length_append]; omega
  have kK : t.length + 1 + s.length ≤ (b ++ s).length := by rw [List.length_append]; omega
  generalize (b ++ s).length = K at q2 eK bK kK
  generalize partV doors outs (rs ++ rs.take 1) = P1 at q2 w3 eK o3 gq1
  obtain ⟨x3, s3, Q3, q3, eK3, w4, n3, G3⟩ := phase3 g hd1 hd ho er ep w3 o3 (by omega) kK eK (by simp)
  obtain ⟨x4, s4, Q4, q4, eK4, w5, n4, G4⟩ := phase4 (x := x3) g hd1 hd ho er ep w4 bK eK3 (by simp; omega)
  obtain ⟨s5, Q5, q5, eK5, w6, n5, G5⟩ := phase5 (x := x4) (at_ := at_) (door := door) g hd1 hd w5 bK eK4 (by simp; omega)
  generalize hP : [P1] ++ Q3 ++ Q4 ++ Q5 = Ps at eK5
  have nP : Ps.length ≤ 4 := by
    rw [← hP]
    simp
    omega
  have GPs : ∀ v ∈ Ps, GP doors outs rs v := fun v m => by
    rw [← hP] at m
    simp only [List.mem_append, List.mem_singleton] at m
    rcases m with ((rfl | m) | m) | m
    · exact gq1
    · exact G3 v m
    · exact G4 v m
    · exact G5 v m
  have hK := (List.getElem?_eq_some_iff.mp eK5).1
  have fz : ∀ f : SF, frzS 7 f [some (.ref 0), some (.int doors), some (.int outs), some (rowsL rs), x4, some (.int at_), some (.int door), some (.ref K), none, none, none] (b ++ s5) = f [some (.ref 0), some (.int doors), some (.int outs), some (rowsL rs), x4, some (.int at_), some (.int door), some (.lst Ps), none, none, none] (b ++ s5.set (K - b.length) .dead) := fun f => by
    unfold frzS frzV
    simp only [List.getElem?_cons_succ, List.getElem?_cons_zero, eK5]
    rw [List.set_append_right _ _ bK]
    rfl
  have w7 : wf (b ++ s5.set (K - b.length) .dead) = true := by
    rw [← List.set_append_right _ _ bK]
    exact wf_set w6 rfl
  generalize s5.set (K - b.length) .dead = s6 at fz w7
  have fin : ∃ vs, so6 [some (.ref 0), some (.int doors), some (.int outs), some (rowsL rs), x4, some (.int at_), some (.int door), some (.ref K), none, none, none] (b ++ s5) = .ret (.lst vs) (b ++ s6) ∧ vs.length ≤ 5 ∧ ∀ v ∈ vs, GP doors outs rs v := by
    unfold so6
    rw [fz]
    by_cases h4 : doors < 4
    · let f : Row → Row := fun r => r ++ r.take 1
      have g5 : GRows (doors + 1) outs (rs.map f) := ⟨by rw [List.length_map]; exact g.h1, by rw [List.length_map]; exact g.h4, fun x m => by
        obtain ⟨r, mr, rfl⟩ := List.mem_map.mp m
        have gr := g.hv r mr
        have hl := gr.hl
        rw [List.length_map]
        refine ⟨by show (r ++ r.take 1).length = _; rw [List.length_append, List.length_take]; omega, fun p m => ?_⟩
        rcases List.mem_append.mp m with m | m
        · exact gr.hv p m
        · exact gr.hv p (List.mem_of_mem_take m)⟩
      have e2 := lc_mapD (mi := seqI (rowsL rs)) (as := rs) (g := rowL) (f := fun r => rowL (f r)) (h := b ++ s6) (μ := [some (.ref 0), some (.int doors), some (.int outs), some (rowsL rs), x4, some (.int at_), some (.int door), some (.lst Ps), none, none, none]) (i := 9) (e := e__law_other_12) (its_h (its_lst _)) (by omega) fun r m => by
        have hl := (g.hv r m).hl
        unfold e__law_other_12 rowL
        simp [f, show r.length + min 1 r.length ≤ LIM by have : LIM = 1000000 := rfl; omega]
      have eR : (MV.lst (rs.map fun r => rowL (f r))) = rowsL (rs.map f) := by unfold rowsL; rw [List.map_map]; rfl
      have pg := (part_good w7 isRows_L (pl_tree (pt_rowsL (by omega) (by omega) g5)) g5 (by omega) (by omega) ho).1
      have gq : GP doors outs rs (partV (doors + 1) outs (rs.map f)) := ⟨_, _, _, rfl, pt_rowsT (by omega) (by omega) g5, fun z => by omega⟩
      have se : seqK (rowsL rs) (b ++ s6) = .ok (seqI (rowsL rs)) (b ++ s6) := seqK_sq rfl
      refine ⟨Ps ++ [partV (doors + 1) outs (rs.map f)], ?_, by simp; omega, fun v m => ?_⟩
      · rw [← eR] at pg
        simp at pg
        simp [show (doors : Int) < 4 by omega, se, e2, pg, show Ps.length + 1 ≤ LIM by have : LIM = 1000000 := rfl; omega]
      · rcases List.mem_append.mp m with m | m
        · exact GPs v m
        · rw [List.mem_singleton] at m
          subst m
          exact gq
    · refine ⟨Ps, ?_, by omega, GPs⟩
      simp [show ¬ (doors : Int) < 4 by omega]
  obtain ⟨vs, e6, n6, G6⟩ := fin
  refine ⟨vs, a2, l2, ?_, n6, G6, by omega, by omega⟩
  unfold f__law_other defM gc bodyM
  rw [so_eq]
  simp only [seq_ev, q1, q2, q3, q4, q5, e6, then_next, outR_ret]
  subst hb
  exact gc_app' (h := pnO cells a2 l2 :: t) rfl (wf_pn w) (rb_lst fun x m => (G6 x m).rb)
end K03

set_option Elab.async false
set_option linter.all false
set_option maxRecDepth 100000
set_option maxHeartbeats 4000000
namespace K03
open PySem PySem.Spec PyProof.Rows L2 DL M
open PySem.W (Datum Tup)
section
variable {h : MH} {rs : List Row}
theorem own_list {n lo hi : Nat} {v : MV} {ts : List MV} (o : Own true h (n + 1) lo hi v (.lst ts)) : ∃ j xs, v = .ref j ∧ h[j]? = some (.lst xs) ∧ j < hi ∧ lo ≤ j ∧ xs.length = ts.length ∧ ∀ (i : Nat) x t, xs[i]? = some x → ts[i]? = some t → ∃ l m, lo ≤ l ∧ m ≤ j ∧ Own true h n l m x t := by
  cases o with
  | val a b => cases a
  | ref a b c =>
    rename_i j xs
    refine ⟨j, xs, rfl, a, c, b.le, b.len, fun i x t e1 e2 => ?_⟩
    obtain ⟨y, l, m, q1, q2, q3, q4, q5, _⟩ := b.at e2
    rw [e1] at q1
    cases q1
    exact ⟨l, m, q2, q4, q5⟩
theorem own_int {n lo hi : Nat} {v : MV} {i : Int} (o : Own true h n lo hi v (.int i)) : v = .int i := by
  cases o with
  | val a b => rfl
theorem own_ints {n lo hi : Nat} {v : MV} {zs : List Int} (o : Own true h (n + 2) lo hi v (.lst (zs.map .int))) : sq h v = some (zs.map MV.int) := by
  obtain ⟨j, xs, rfl, e, _, _, el, ei⟩ := own_list o
  rw [sq_ref e]
  congr 1
  apply List.ext_getElem?
  intro i
  rcases Nat.lt_or_ge i xs.length with q | q
  · have e1 := List.getElem?_eq_getElem q
    have e2 := List.getElem?_eq_getElem (l := zs.map MV.int) (i := i) (by omega)
    rw [List.getElem_map] at e2
    obtain ⟨l, m, _, _, o2⟩ := ei i _ _ e1 e2
    rw [e1, e2, own_int o2]
  · rw [List.getElem?_eq_none_iff.mpr q, List.getElem?_eq_none_iff.mpr (by omega)]
theorem own_rows {lo hi : Nat} {v : MV} (o : Own true h 9 lo hi v (rowsL rs)) : isRows h v rs := by
  obtain ⟨j, xs, rfl, e, _, _, el, ei⟩ := own_list o
  refine ⟨xs, sq_ref e, by rw [el, List.length_map], fun i x r q1 q2 => ?_⟩
  obtain ⟨l, m, _, _, o1⟩ := ei i x (rowL r) q1 (by rw [List.getElem?_map, q2]; rfl)
  obtain ⟨j, xs, rfl, e, _, _, el, ei⟩ := own_list o1
  refine ⟨xs, sq_ref e, by rw [el, List.length_map], fun i x p q1 q2 => ?_⟩
  obtain ⟨l, m, _, _, o1⟩ := ei i x (oneL p) q1 (by rw [List.getElem?_map, q2]; rfl)
  obtain ⟨j, xs, rfl, e, _, _, el, ei⟩ := own_list o1
  match xs, el, ei, e with
  | [x, y], _, ei, e =>
    obtain ⟨l, m, _, _, o1⟩ := ei 0 x _ rfl rfl
    obtain ⟨l, m, _, _, o2⟩ := ei 1 y _ rfl rfl
    rw [own_int o1] at e
    exact ⟨y, sq_ref e, own_ints (n := 4) o2⟩
theorem own_items {n lo hi : Nat} {v t : MV} (o : Own false h (n + 2) lo hi v t) (p : pt t = true) : pl h v = true ∧ ∀ xs, sq h v = some xs → xs.length < 1000000 ∧ ∀ x ∈ xs, ∃ l m t', Own false h (n + 1) l m x t' ∧ pt t' = true := by
  cases o with
  | val a b =>
    exact ⟨pt_pl h p, fun xs e => ⟨(pt_sq p e).1, fun x m => ⟨0, 0, x, .val (nval_f.trans (pt_nref ((pt_sq p e).2 x m))) (Nat.le_refl _), (pt_sq p e).2 x m⟩⟩⟩
  | ref a b c =>
    rename_i j ys ts
    have q := pt_sq (h := h) p rfl
    refine ⟨pl_ref a, fun xs e => ?_⟩
    rw [sq_ref a] at e
    cases e
    refine ⟨by rw [b.len]; exact q.1, fun x m => ?_⟩
    obtain ⟨i, hi⟩ := List.mem_iff_getElem?.mp m
    have hl := (List.getElem?_eq_some_iff.mp hi).1
    have e2 := List.getElem?_eq_getElem (l := ts) (i := i) (by rw [← b.len]; exact hl)
    obtain ⟨y, l, m', q1, _, _, _, q5, _⟩ := b.at e2
    rw [hi] at q1
    cases q1
    exact ⟨l, m', _, q5, q.2 _ (List.mem_of_getElem? e2)⟩
theorem own_pl {lo hi : Nat} {v t : MV} (o : Own false h 9 lo hi v t) (p : pt t = true) : plR h v := by
  have s1 : ∀ {n lo hi : Nat} {v t : MV}, Own false h (n + 3) lo hi v t → pt t = true → plS h v := fun o p => by
    obtain ⟨a, b⟩ := own_items o p
    refine ⟨a, fun xs e => ⟨(b xs e).1, fun x m => ?_⟩⟩
    obtain ⟨l, m, t', o', p'⟩ := (b xs e).2 x m
    exact (own_items o' p').1
  have s2 : ∀ {n lo hi : Nat} {v t : MV}, Own false h (n + 4) lo hi v t → pt t = true → plP h v := fun o p => by
    obtain ⟨a, b⟩ := own_items o p
    refine ⟨a, fun xs e x m => ?_⟩
    obtain ⟨l, m, t', o', p'⟩ := (b xs e).2 x m
    exact s1 o' p'
  have s3 : ∀ {n lo hi : Nat} {v t : MV}, Own false h (n + 5) lo hi v t → pt t = true → plQ h v := fun o p => by
    obtain ⟨a, b⟩ := own_items o p
    refine ⟨a, fun xs e => ⟨(b xs e).1, fun x m => ?_⟩⟩
    obtain ⟨l, m, t', o', p'⟩ := (b xs e).2 x m
    exact s2 o' p'
  obtain ⟨a, b⟩ := own_items o p
  refine ⟨a, fun xs e => ⟨(b xs e).1, fun x m => ?_⟩⟩
  obtain ⟨l, m, t', o', p'⟩ := (b xs e).2 x m
  exact s3 o' p'
end
/-! the comparison of parts -/
abbrev Cv := Tup (Tup (Int × Tup Int))
def conv (rs : List Row) : Cv := Tup.mk (rs.map fun r => Tup.mk (r.map fun p => (p.1, Tup.mk p.2)))
theorem en_conv (rs : List Row) : rowsT' rs = en (conv rs) := by
  unfold rowsT' conv
  rw [en_tup, List.map_map]
  congr 1
  refine List.map_congr_left fun r _ => ?_
  show rowT' r = en (Tup.mk (r.map fun p => (p.1, Tup.mk p.2)))
  rw [en_tup, List.map_map]
  rfl
theorem conv_inj {rs rs' : List Row} (e : conv rs = conv rs') : rs = rs' := by
  have e1 : (rs.map fun r : Row => (Tup.mk (r.map fun p => (p.1, Tup.mk p.2)) : Tup (Int × Tup Int))) = rs'.map fun r : Row => Tup.mk (r.map fun p => (p.1, Tup.mk p.2)) := congrArg Tup.items e
  have inj : ∀ (p q : Int × List Int), ((p.1, Tup.mk p.2) : Int × Tup Int) = (q.1, Tup.mk q.2) → p = q := fun p q z => by
    cases p
    cases q
    cases z
    rfl
  refine List.map_inj_right (fun r r' z => ?_) |>.mp e1
  have e2 : (r.map fun p : Int × List Int => ((p.1, Tup.mk p.2) : Int × Tup Int)) = r'.map fun p => (p.1, Tup.mk p.2) := congrArg Tup.items z
  exact (List.map_inj_right fun p q z => inj p q z).mp e2
theorem eqp {h : MH} {d o d' o' : Nat} {rs rs' : List Row} : f_Part___eq__ [partV d o rs, partV d' o' rs'] h = .ok (.bl (decide (d = d' ∧ o = o' ∧ rs = rs'))) h := by
  have e : eqX0 (rowsT' rs) (rowsT' rs') h = .ok (.bl (decide (rs = rs'))) h := by
    have q : eqX0 (rowsT' rs) (rowsT' rs') h = eqM (rowsT' rs) (rowsT' rs') h := (eqK_pl rfl rfl).1
    rw [q, en_conv, en_conv, eq_en (by decide)]
    congr 2
    exact decide_eq_decide.mpr ⟨conv_inj, fun z => by rw [z]⟩
  unfold f_Part___eq__ defM gc bodyM s_Part___eq__ startM partV
  by_cases h1 : d = d'
  · by_cases h2 : o = o'
    · simp [h1, h2, e, eqK_ii]
    · simp [h1, h2, eqK_ii, show ¬ (o : Int) = o' by omega]
  · simp [h1, eqK_ii, show ¬ (d : Int) = d' by omega]
theorem eqp_pl {h : MH} {d o : Nat} {rs : List Row} {v : MV} (p : pl h v = true) : f_Part___eq__ [partV d o rs, v] h = .ok (.bl false) h := by
  unfold f_Part___eq__ defM gc bodyM s_Part___eq__ startM
  simp [isp_Part p]
theorem lk : List.lookup ("Part" : Str) eqs = some f_Part___eq__ := by kernel_rfl
theorem in_part {h : MH} {d o : Nat} {rs : List Row} : insOf h (partV d o rs) = some ("Part" : Str) ∧ insKn cfg.insN h (partV d o rs) = true := ⟨rfl, by unfold partV; kernel_rfl⟩
theorem eqX_pp {h : MH} {d o d' o' : Nat} {rs rs' : List Row} : eqX (partV d o rs) (partV d' o' rs') h = .ok (.bl (decide (d = d' ∧ o = o' ∧ rs = rs'))) h ∧ neX (partV d o rs) (partV d' o' rs') h = .ok (.bl (!decide (d = d' ∧ o = o' ∧ rs = rs'))) h := by
  unfold eqX neX eqK eqA neA
  rw [in_part.2, in_part.1]
  dsimp only
  rw [lk]
  dsimp only
  rw [eqp]
  exact ⟨rfl, rfl⟩
theorem eqX_pv {h : MH} {d o : Nat} {rs : List Row} {v : MV} (hv : v = .non ∨ ∃ xs, v = .tup xs) : eqX (partV d o rs) v h = .ok (.bl false) h ∧ eqX v (partV d o rs) h = .ok (.bl false) h ∧ neX (partV d o rs) v h = .ok (.bl true) h := by
  have p : pl h v = true ∧ insOf h v = none ∧ plainL v = true := by
    rcases hv with rfl | ⟨xs, rfl⟩ <;> exact ⟨of_decide_eq_true rfl, rfl, rfl⟩
  unfold eqX neX eqK eqA neA
  rw [in_part.2, in_part.1, p.2.1, insKn_pl p.1]
  dsimp only
  rw [lk, p.2.2]
  dsimp only
  rw [eqp_pl p.1]
  exact ⟨rfl, rfl, rfl⟩
theorem repr_rows {h : MH} {d o n : Nat} {rs : List Row} (hd : d ≤ 4) (ho : o ≤ 6) (hn : n ≤ 12) (hl : rs.length ≤ 12) (g : GRows d o rs) : ∃ z, PyData.strOk z = true ∧ reprM [.lst [.int d, .int o, .int n, rowsT' rs]] h = .ok (.str z) h := by
  let dOne : Int × List Int → PyData := fun p => .tuple [.int p.1, .tuple (p.2.map .int)]
  let dRow : Row → PyData := fun r => .tuple (r.map dOne)
  have t1 : ∀ (p : Int × List Int), toD h 61 (oneT' p) = some (dOne p) := fun p => by
    have q := toD_tupG (h := h) (n := 59) (g := MV.int) (k := PyData.int) (xs := p.2) (fun x _ => by unfold toD; rfl)
    unfold oneT'
    show (toDs (toD h 60) [.int p.1, .tup (p.2.map .int)]).map PyData.tuple = _
    unfold toDs toDs toDs
    rw [q]
    rfl
  have t2 : toD h 63 (rowsT' rs) = some (.tuple (rs.map dRow)) := toD_tupG fun r _ => toD_tupG fun p _ => t1 p
  have t3 : toD h 64 (.lst [.int d, .int o, .int n, rowsT' rs]) = some (.list [.int d, .int o, .int n, .tuple (rs.map dRow)]) := by
    rw [toD_lst]
    unfold toDs toDs toDs toDs toDs
    rw [t2]
    rfl
  suffices q : Sho 64 500000 (.list [.int d, .int o, .int n, .tuple (rs.map dRow)]) from ⟨_, q.ok, repr_ok rfl t3 q⟩
  have s0 : ∀ r ∈ rs, Sho 3 (4 * (2 * (6 * 101 + 1) + 1)) (dRow r) := fun r mr => by
    have gr := g.hv r mr
    refine Sho.tuple (k := 2) (w := 2 * (6 * 101 + 1)) (n := 4) (fun x m => ?_) (by rw [List.length_map, gr.hl]; exact hd)
    obtain ⟨p, mp, rfl⟩ := List.mem_map.mp m
    have gp := gr.hv p mp
    have h0 := gp.h0
    have h1 := gp.h1
    refine Sho.tuple (k := 1) (w := 6 * 101) (n := 2) (fun x m => ?_) (Nat.le_refl _)
    simp only [List.mem_cons, List.not_mem_nil, or_false] at m
    rcases m with rfl | rfl
    · exact (Sho.int' (by omega) (by omega)).up (by omega) (by omega)
    · refine Sho.tuple (k := 0) (w := 100) (n := 6) (fun x m => ?_) (by rw [List.length_map, gp.hl]; exact ho)
      obtain ⟨c, mc, rfl⟩ := List.mem_map.mp m
      have := gp.hv c mc
      exact Sho.int' (by omega) (by omega)
  have s1 : Sho 4 (12 * (4 * (2 * (6 * 101 + 1) + 1) + 1)) (.tuple (rs.map dRow)) := Sho.tuple (fun x m => by
    obtain ⟨r, mr, rfl⟩ := List.mem_map.mp m
    exact s0 r mr) (by rw [List.length_map]; exact hl)
  refine (Sho.list (k := 4) (w := 12 * (4 * (2 * (6 * 101 + 1) + 1) + 1)) (n := 4) (fun x m => ?_) (Nat.le_refl _)).up (by omega) (by omega)
  simp only [List.mem_cons, List.not_mem_nil, or_false] at m
  rcases m with rfl | rfl | rfl | rfl
  · exact (Sho.int' (by omega) (by omega)).up (by omega) (by omega)
  · exact (Sho.int' (by omega) (by omega)).up (by omega) (by omega)
  · exact (Sho.int' (by omega) (by omega)).up (by omega) (by omega)
  · exact s1
end K03

set_option Elab.async false
set_option linter.all false
set_option maxRecDepth 100000
set_option maxHeartbeats 4000000
namespace K03
open PySem PySem.Spec PyProof.Rows L2 DL M
open PySem.W (Datum Tup)
def bl1 : SF := (parS 3 (consA (binE (addM false) (retE (.int 1)) (callE (ordM [0, 1] [] f__law_draw) (lenA 2 (consA (varE 1) (consA (retE (.int 4)) nilA))))) (consA (callE (ordM [0, 1] [] f__law_draw) (lenA 2 (consA (varE 1) (consA (retE (.int 7)) nilA)))) (consA (callE (ordM [0, 1] [] f__law_pick) (lenA 2 (consA (varE 1) (consA (lstE false (consA (retE (.int 1)) (consA (retE (.int 2)) (consA (retE (.int 3)) (consA (retE (.int 12)) nilA))))) nilA)))) nilA))) (consG (nameG 3) (consG (nameG 4) (consG (nameG 5) nilG))))
def bl2 : SF := (asgS (callE (ordM [0, 1, 2, 3] [] f__law_rows) (lenA 4 (consA (varE 1) (consA (varE 3) (consA (varE 4) (consA (varE 5) nilA)))))) (nameG 6))
def bl3 : SF := (parS 2 (consA (callE (ordM [0] [] f__law_tupled) (lenA 1 (consA (varE 6) nilA))) (consA (callE (ordM [0] [] f__law_copy) (lenA 1 (consA (varE 6) nilA))) nilA)) (consG (nameG 7) (consG (nameG 8) nilG)))
def bl4 : SF := (asgS (callE mk_Part_3 (lenA 3 (consA (varE 3) (consA (varE 4) (consA (varE 8) nilA))))) (nameG 9))
def bl5 : SF := (asgS (retE (.int 99)) (subG (binE ixM (binE ixM (varE 8) (retE (.int 0))) (retE (.int 0))) (retE (.int 0))))
def bl6 : SF := (exprS (methE isL appM (binE ixM (binE ixM (binE ixM (varE 8) (retE (.int 0))) (retE (.int 0))) (retE (.int 1))) (consA (retE (.int 5)) nilA)))
def bl7 : SF := (exprS (methE isL appM (varE 8) (consA (retE .non) nilA)))
def bl8 : SF := (ifS (testT (binE neX (callE reprM (consA (lstE false (consA (unE (fldM cfg.insL cfg.cErr cfg.F "doors") (varE 9)) (consA (unE (fldM cfg.insL cfg.cErr cfg.F "outs") (varE 9)) (consA (unE (fldM cfg.insL cfg.cErr cfg.F "many") (varE 9)) (consA (unE (fldM cfg.insL cfg.cErr cfg.F "rows") (varE 9)) nilA))))) nilA)) (callE reprM (consA (lstE false (consA (varE 3) (consA (varE 4) (consA (varE 5) (consA (varE 7) nilA))))) nilA)))) (retS (retE (.bl false))) skipS)
def bl9 : SF := (asgS (callE mk_Part_0_rows_outs_doors (lenA 3 (consA (varE 7) (consA (varE 4) (consA (varE 3) nilA))))) (nameG 10))
def bl10 : SF := (ifS (orT (notT (testT (binE eqX (varE 9) (varE 10)))) (testT (binE neX (varE 9) (varE 10)))) (retS (retE (.bl false))) skipS)
def bl11 : SF := (ifS (testT (binE neX (lcE false (seqIt (binE (addM false) (callE (ordM [0, 1, 2, 3] [] f__law_other) (lenA 4 (consA (varE 1) (consA (varE 3) (consA (varE 4) (consA (varE 6) nilA)))))) (lstE false (consA (varE 7) (consA (retE .non) (consA (tupE (consA (varE 3) (consA (varE 4) (consA (varE 7) nilA)))) nilA)))))) (CT.one 13) t_law_15 e_law_15 [12, 13]) (lstE false nilA))) (retS (retE (.bl false))) skipS)
def bl12 : SF := (ifS (orT (notT (testT (callE (ordM [0, 1, 2, 3] [] f__law_refused) (lenA 4 (consA (varE 1) (consA (varE 3) (consA (varE 4) (consA (varE 6) nilA)))))))) (notT (testT (callE (ordM [0, 1, 2, 3] [] f__law_refused) (lenA 4 (consA (varE 1) (consA (varE 3) (consA (varE 4) (consA (varE 6) nilA))))))))) (retS (retE (.bl false))) skipS)
theorem bl_eq : b_law_2 = (seqS bl1 (seqS bl2 (seqS bl3 (seqS bl4 (seqS bl5 (seqS bl6 (seqS bl7 (seqS bl8 (seqS bl9 (seqS bl10 (seqS bl11 bl12))))))))))) := rfl
theorem ix_at {h : MH} {k i : Nat} {xs : List MV} {v : MV} (e : h[k]? = some (.lst xs)) (ev : xs[i]? = some v) : ixM (.ref k) (.int i) h = .ok v h := by
  rw [ix_sq (sq_ref e), at_nat, ev]
theorem given_ok {b s : MH} {j lo hi : Nat} {rs : List Row} {x0 x1 x2 x3 x4 x5 x6 x7 : Option MV} {rest : ME} (g1 : 1 ≤ rs.length) (g2 : ∀ r ∈ rs, 1 ≤ r.length) (hlen : rs.length ≤ 400) (hints : ∀ r ∈ rs, ∀ p ∈ r, p.2.length ≤ 10) (hb : b.length ≤ lo) (w : wf (b ++ s) = true) (o : Own true (b ++ s) 9 lo hi (.ref j) (rowsL rs)) :
    ∃ s1 s2 s3, bl5 (x0 :: x1 :: x2 :: x3 :: x4 :: x5 :: x6 :: x7 :: some (.ref j) :: rest) (b ++ s) = .next (x0 :: x1 :: x2 :: x3 :: x4 :: x5 :: x6 :: x7 :: some (.ref j) :: rest) (b ++ s1) ∧ bl6 (x0 :: x1 :: x2 :: x3 :: x4 :: x5 :: x6 :: x7 :: some (.ref j) :: rest) (b ++ s1) = .next (x0 :: x1 :: x2 :: x3 :: x4 :: x5 :: x6 :: x7 :: some (.ref j) :: rest) (b ++ s2) ∧ bl7 (x0 :: x1 :: x2 :: x3 :: x4 :: x5 :: x6 :: x7 :: some (.ref j) :: rest) (b ++ s2) = .next (x0 :: x1 :: x2 :: x3 :: x4 :: x5 :: x6 :: x7 :: some (.ref j) :: rest) (b ++ s3) ∧ wf (b ++ s3) = true := by
  obtain ⟨j', xs, ej, eo, jh, jl, el, ei⟩ := own_list o
  cases ej
  obtain ⟨r, er⟩ : ∃ r, rs[0]? = some r := ⟨_, List.getElem?_eq_getElem g1⟩
  have mr := List.mem_of_getElem? er
  obtain ⟨y, ey⟩ : ∃ y, xs[0]? = some y := ⟨_, List.getElem?_eq_getElem (by rw [el, List.length_map]; exact g1)⟩
  obtain ⟨l1, m1, a1, a2, o1⟩ := ei 0 y (rowL r) ey (by rw [List.getElem?_map, er]; rfl)
  obtain ⟨i1, ys, rfl, eo1, ih1, il1, el1, ei1⟩ := own_list o1
  obtain ⟨p, ep⟩ : ∃ p, r[0]? = some p := ⟨_, List.getElem?_eq_getElem (g2 r mr)⟩
  have mp := List.mem_of_getElem? ep
  obtain ⟨z, ez⟩ : ∃ z, ys[0]? = some z := ⟨_, List.getElem?_eq_getElem (by rw [el1, List.length_map]; exact g2 r mr)⟩
  obtain ⟨l2, m2, b1, b2, o2⟩ := ei1 0 z (oneL p) ez (by rw [List.getElem?_map, ep]; rfl)
  obtain ⟨i2, zs, rfl, eo2, ih2, il2, el2, ei2⟩ := own_list o2
  match zs, el2, ei2, eo2 with
  | [u, v], _, ei2, eo2 =>
    obtain ⟨l3, m3, c1, c2, o3⟩ := ei2 1 v _ rfl rfl
    obtain ⟨i3, ws, rfl, eo3, ih3, il3, el3, ei3⟩ := own_list o3
    have wl : ws.length ≤ 10 := by rw [el3, List.length_map]; exact hints r mr p mp
    have n1 : b.length ≤ i3 := by omega
    have n2 : i3 < i2 := by omega
    have n3 : i2 < i1 := by omega
    have n4 : i1 < j := by omega
    have hj := (List.getElem?_eq_some_iff.mp eo).1
    have h1w : wf ((b ++ s).set i2 (.lst [.int 99, .ref i3])) = true := wf_setl w fun x m => by
      simp only [List.mem_cons, List.not_mem_nil, or_false] at m
      rcases m with rfl | rfl
      · rfl
      · exact wf_at w eo2 _ (by simp)
    have k1 : ((b ++ s).set i2 (.lst [.int 99, .ref i3]))[j]? = some (.lst xs) := by rw [List.getElem?_set_ne (by omega)]; exact eo
    have k2 : ((b ++ s).set i2 (.lst [.int 99, .ref i3]))[i1]? = some (.lst ys) := by rw [List.getElem?_set_ne (by omega)]; exact eo1
    have k3 : ((b ++ s).set i2 (.lst [.int 99, .ref i3]))[i2]? = some (.lst [.int 99, .ref i3]) := by rw [List.getElem?_set_self (by omega)]
    have k4 : ((b ++ s).set i2 (.lst [.int 99, .ref i3]))[i3]? = some (.lst ws) := by rw [List.getElem?_set_ne (by omega)]; exact eo3
    have h2w : wf (((b ++ s).set i2 (.lst [.int 99, .ref i3])).set i3 (.lst (ws ++ [.int 5]))) = true := wf_setl h1w fun x m => by
      rcases List.mem_append.mp m with m | m
      · exact wf_at h1w k4 _ m
      · rw [List.mem_singleton] at m
        subst m
        rfl
    have k5 : (((b ++ s).set i2 (.lst [.int 99, .ref i3])).set i3 (.lst (ws ++ [.int 5])))[j]? = some (.lst xs) := by rw [List.getElem?_set_ne (by omega)]; exact k1
    have h3w : wf ((((b ++ s).set i2 (.lst [.int 99, .ref i3])).set i3 (.lst (ws ++ [.int 5]))).set j (.lst (xs ++ [.non]))) = true := wf_setl h2w fun x m => by
      rcases List.mem_append.mp m with m | m
      · exact wf_at h2w k5 _ m
      · rw [List.mem_singleton] at m
        subst m
        rfl
    have q1 := ix_at eo ey
    have q2 := ix_at eo1 ez
    have q3 := ix_at k1 ey
    have q4 := ix_at k2 ez
    have q5 := ix_at (i := 1) k3 rfl
    have st : setM (.ref i2) (.int 0) (.int 99) (b ++ s) = some ((b ++ s).set i2 (.lst [.int 99, .ref i3])) := by
      unfold setM
      simp only [eo2]
      rfl
    have p1 := app_at (y := .int 5) k4 (by omega)
    have p2 := app_at (y := .non) k5 (by rw [el, List.length_map]; omega)
    have l1' := isL_at k4
    have l2' := isL_at k5
    simp only [Int.natCast_zero] at q1 q2 q3 q4
    have q5' : ixM (.ref i2) (.int 1) ((b ++ s).set i2 (.lst [.int 99, .ref i3])) = .ok (.ref i3) ((b ++ s).set i2 (.lst [.int 99, .ref i3])) := q5
    have w1 : bl5 (x0 :: x1 :: x2 :: x3 :: x4 :: x5 :: x6 :: x7 :: some (.ref j) :: rest) (b ++ s) = .next (x0 :: x1 :: x2 :: x3 :: x4 :: x5 :: x6 :: x7 :: some (.ref j) :: rest) ((b ++ s).set i2 (.lst [.int 99, .ref i3])) := by
      unfold bl5
      simp [q1, q2, st]
    have w2 : bl6 (x0 :: x1 :: x2 :: x3 :: x4 :: x5 :: x6 :: x7 :: some (.ref j) :: rest) ((b ++ s).set i2 (.lst [.int 99, .ref i3])) = .next (x0 :: x1 :: x2 :: x3 :: x4 :: x5 :: x6 :: x7 :: some (.ref j) :: rest) (((b ++ s).set i2 (.lst [.int 99, .ref i3])).set i3 (.lst (ws ++ [.int 5]))) := by
      unfold bl6
      simp [q3, q4, q5', l1', p1]
    have w3 : bl7 (x0 :: x1 :: x2 :: x3 :: x4 :: x5 :: x6 :: x7 :: some (.ref j) :: rest) (((b ++ s).set i2 (.lst [.int 99, .ref i3])).set i3 (.lst (ws ++ [.int 5]))) = .next (x0 :: x1 :: x2 :: x3 :: x4 :: x5 :: x6 :: x7 :: some (.ref j) :: rest) ((((b ++ s).set i2 (.lst [.int 99, .ref i3])).set i3 (.lst (ws ++ [.int 5]))).set j (.lst (xs ++ [.non]))) := by
      unfold bl7
      simp [l2', p2]
    rw [List.set_append_right _ _ (by omega : b.length ≤ i2)] at w1 w2 w3 h3w
    rw [List.set_append_right _ _ (by omega : b.length ≤ i3)] at w2 w3 h3w
    rw [List.set_append_right _ _ (by omega : b.length ≤ j)] at w3 h3w
    exact ⟨_, _, _, w1, w2, w3, h3w⟩
/-- one turn of the law -/
theorem turn_ok {cells : List Int} {a l : Int} {t : MH} {x0 x2 : Option MV} (h0 : 0 ≤ a) (h1 : a ≤ 900000) (w : wf (pnO cells a l :: t) = true) :
    ∃ a' l' t' y3 y4 y5 y6 y7 y8 y9 y10, b_law_2 [x0, some (.ref 0), x2, none, none, none, none, none, none, none, none, none, none, none, none] (pnO cells a l :: t) = .next [x0, some (.ref 0), x2, y3, y4, y5, y6, y7, y8, y9, y10, none, none, none, none] (pnO cells a' l' :: t') ∧ wf (pnO cells a' l' :: t') = true ∧ a ≤ a' ∧ a' ≤ a + 1000 := by
  obtain ⟨r1, a1, l1, e1, d1, b1, c1⟩ := draw_nat (cells := cells) (a := a) (l := l) (t := t) (many := 4) h0 (by omega) (by omega) (by omega)
  obtain ⟨outs, a2, l2, e2, d2, b2, c2⟩ := draw_nat (cells := cells) (a := a1) (l := l1) (t := t) (many := 7) (by omega) (by omega) (by omega) (by omega)
  obtain ⟨mv, a3, l3, e3, m3, b3, c3⟩ := pick_ok (cells := cells) (a := a2) (l := l2) (t := t) (xs := [.int 1, .int 2, .int 3, .int 12]) (by omega) (by omega) (by simp) (by simp)
  obtain ⟨many, rfl, hm1, hm2⟩ : ∃ m : Nat, mv = .int m ∧ 1 ≤ m ∧ m ≤ 12 := by
    simp at m3
    rcases m3 with rfl | rfl | rfl | rfl
    · exact ⟨1, rfl, by omega, by omega⟩
    · exact ⟨2, rfl, by omega, by omega⟩
    · exact ⟨3, rfl, by omega, by omega⟩
    · exact ⟨12, rfl, by omega, by omega⟩
  obtain ⟨doors, hdd⟩ : ∃ d : Nat, d = 1 + r1 := ⟨_, rfl⟩
  have hd1 : 1 ≤ doors := by omega
  have hd : doors ≤ 4 := by omega
  have ho : outs ≤ 6 := by omega
  have q1 : bl1 [x0, some (.ref 0), x2, none, none, none, none, none, none, none, none, none, none, none, none] (pnO cells a l :: t) = .next [x0, some (.ref 0), x2, some (.int doors), some (.int outs), some (.int many), none, none, none, none, none, none, none, none, none] (pnO cells a3 l3 :: t) := by
    simp at e1 e2
    unfold bl1
    simp [e1, e2, e3, hdd]
  obtain ⟨rs, a4, l4, e4, hrl, g, b4, c4⟩ := rows_ok (cells := cells) (a := a3) (l := l3) (t := t) (doors := doors) (outs := outs) (many := many) (by omega) (by omega) hd ho hm1 hm2
  subst hrl
  have q2 : bl2 [x0, some (.ref 0), x2, some (.int doors), some (.int outs), some (.int rs.length), none, none, none, none, none, none, none, none, none] (pnO cells a3 l3 :: t) = .next [x0, some (.ref 0), x2, some (.int doors), some (.int outs), some (.int rs.length), some (rowsL rs), none, none, none, none, none, none, none, none] (pnO cells a4 l4 :: t) := by
    unfold bl2
    simp [e4]
  have w4 : wf (pnO cells a4 l4 :: t) = true := wf_pn w
  obtain ⟨j, s, e5, o5, w5⟩ := copy_ok g (by omega) w4
  have et := fun h => tupled_ok (h := h) g (by omega)
  have pr := pt_rowsT (rs := rs) (doors := doors) (outs := outs) (by omega) (by omega) g
  have prL := pt_rowsL (rs := rs) (doors := doors) (outs := outs) (by omega) (by omega) g
  have lb : (pnO cells a4 l4 :: t).length = t.length + 1 := rfl
  generalize hb : pnO cells a4 l4 :: t = b at *
  have q3 : bl3 [x0, some (.ref 0), x2, some (.int doors), some (.int outs), some (.int rs.length), some (rowsL rs), none, none, none, none, none, none, none, none] b = .next [x0, some (.ref 0), x2, some (.int doors), some (.int outs), some (.int rs.length), some (rowsL rs), some (rowsT' rs), some (.ref j), none, none, none, none, none, none] (b ++ s) := by
    unfold bl3
    simp [et, e5]
  have p4 := (part_good w5 (own_rows o5) (own_pl o5.weak prL) g hd1 hd ho).1
  have q4 : bl4 [x0, some (.ref 0), x2, some (.int doors), some (.int outs), some (.int rs.length), some (rowsL rs), some (rowsT' rs), some (.ref j), none, none, none, none, none, none] (b ++ s) = .next [x0, some (.ref 0), x2, some (.int doors), some (.int outs), some (.int rs.length), some (rowsL rs), some (rowsT' rs), some (.ref j), some (partV doors outs rs), none, none, none, none, none] (b ++ s) := by
    unfold bl4
    simp [p4]
  obtain ⟨s1, s2, s3, q5, q6, q7, w7⟩ := given_ok (x0 := x0) (x1 := some (.ref 0)) (x2 := x2) (x3 := some (.int doors)) (x4 := some (.int outs)) (x5 := some (.int rs.length)) (x6 := some (rowsL rs)) (x7 := some (rowsT' rs)) (rest := [some (partV doors outs rs), none, none, none, none, none]) g.h1 (fun r m => by rw [(g.hv r m).hl]; exact hd1) g.h4 (fun r m p mp => by rw [((g.hv r m).hv p mp).hl]; omega) (Nat.le_refl _) w5 o5
  obtain ⟨z, hz, ez⟩ := repr_rows (h := b ++ s3) (d := doors) (o := outs) (n := rs.length) (rs := rs) hd ho hm2 hm2 g
  have q8 : bl8 [x0, some (.ref 0), x2, some (.int doors), some (.int outs), some (.int rs.length), some (rowsL rs), some (rowsT' rs), some (.ref j), some (partV doors outs rs), none, none, none, none, none] (b ++ s3) = .next [x0, some (.ref 0), x2, some (.int doors), some (.int outs), some (.int rs.length), some (rowsL rs), some (rowsT' rs), some (.ref j), some (partV doors outs rs), none, none, none, none, none] (b ++ s3) := by
    unfold bl8 partV
    simp [ez, ne_str hz]
  have p9 := (part_good w7 isRows_T (pl_tree pr) g hd1 hd ho).2
  have q9 : bl9 [x0, some (.ref 0), x2, some (.int doors), some (.int outs), some (.int rs.length), some (rowsL rs), some (rowsT' rs), some (.ref j), some (partV doors outs rs), none, none, none, none, none] (b ++ s3) = .next [x0, some (.ref 0), x2, some (.int doors), some (.int outs), some (.int rs.length), some (rowsL rs), some (rowsT' rs), some (.ref j), some (partV doors outs rs), some (partV doors outs rs), none, none, none, none] (b ++ s3) := by
    unfold bl9
    simp [p9]
  have q10 : bl10 [x0, some (.ref 0), x2, some (.int doors), some (.int outs), some (.int rs.length), some (rowsL rs), some (rowsT' rs), some (.ref j), some (partV doors outs rs), some (partV doors outs rs), none, none, none, none] (b ++ s3) = .next [x0, some (.ref 0), x2, some (.int doors), some (.int outs), some (.int rs.length), some (rowsL rs), some (rowsT' rs), some (.ref j), some (partV doors outs rs), some (partV doors outs rs), none, none, none, none] (b ++ s3) := by
    unfold bl10
    simp [eqX_pp.1, eqX_pp.2]
  subst hb
  obtain ⟨vs, a5, l5, e6, n6, G6, b6, c6⟩ := other_ok (cells := cells) (a := a4) (l := l4) (t := t ++ s3) (doors := doors) (outs := outs) (rs := rs) (by omega) (by omega) w7 hd1 hd ho g hm2
  have q11 : bl11 [x0, some (.ref 0), x2, some (.int doors), some (.int outs), some (.int rs.length), some (rowsL rs), some (rowsT' rs), some (.ref j), some (partV doors outs rs), some (partV doors outs rs), none, none, none, none] (pnO cells a4 l4 :: (t ++ s3)) = .next [x0, some (.ref 0), x2, some (.int doors), some (.int outs), some (.int rs.length), some (rowsL rs), some (rowsT' rs), some (.ref j), some (partV doors outs rs), some (partV doors outs rs), none, none, none, none] (pnO cells a5 l5 :: (t ++ s3)) := by
    have lc := lc_mapH (mi := seqI (.lst (vs ++ [rowsT' rs, .non, .tup [.int doors, .int outs, rowsT' rs]]))) (h := pnO cells a5 l5 :: (t ++ s3)) (μ := [x0, some (.ref 0), x2, some (.int doors), some (.int outs), some (.int rs.length), some (rowsL rs), some (rowsT' rs), some (.ref j), some (partV doors outs rs), some (partV doors outs rs), none, none, none, none]) (i := 13) (t := t_law_15) (e := e_law_15) (its_h (its_lst _)) (by simp; omega) (fun _ => false) (fun x => x) (fun x m => by
      unfold t_law_15
      rcases List.mem_append.mp m with m | m
      · obtain ⟨d, o, rs', rfl, _, hne⟩ := G6 x m
        have hne' : ¬ (doors = d ∧ outs = o ∧ rs = rs') := fun z => hne ⟨z.1.symm, z.2.1.symm, z.2.2.symm⟩
        simp only [List.set, or_ev, not_ev, test_ev, bin_ev, var_s, var_0, bind_ok, eqX_pp.1, eqX_pp.2, isB_ev, decide_eq_false hne, decide_eq_false hne']
        rfl
      · have hv : x = .non ∨ ∃ xs, x = .tup xs := by
          simp only [List.mem_cons, List.not_mem_nil, or_false] at m
          rcases m with rfl | rfl | rfl
          · exact .inr ⟨_, rfl⟩
          · exact .inl rfl
          · exact .inr ⟨_, rfl⟩
        obtain ⟨k1, k2, k3⟩ := eqX_pv (h := pnO cells a5 l5 :: (t ++ s3)) (d := doors) (o := outs) (rs := rs) hv
        simp only [List.set, or_ev, not_ev, test_ev, bin_ev, var_s, var_0, bind_ok, k1, k2, k3, isB_ev]
        rfl) fun x m z => by cases z
    rw [show (vs ++ [rowsT' rs, .non, .tup [.int doors, .int outs, rowsT' rs]]).filter (fun _ => false) = [] from List.filter_eq_nil_iff.mpr fun _ _ z => by cases z] at lc
    have ad : ∀ h, addM false (.lst vs) (.lst [rowsT' rs, .non, .tup [.int doors, .int outs, rowsT' rs]]) h = .ok (.lst (vs ++ [rowsT' rs, .non, .tup [.int doors, .int outs, rowsT' rs]])) h := fun h => by
      rw [add_ll, if_pos (by have : LIM = 1000000 := rfl; simp; omega)]
      rfl
    unfold bl11
    simp [e6, ad, lc, neK_l00]
  have w8 : wf (pnO cells a5 l5 :: (t ++ s3)) = true := wf_pn w7
  obtain ⟨a6, l6, e7, b7, c7⟩ := refused_ok (cells := cells) (a := a5) (l := l5) (t := t ++ s3) (doors := doors) (outs := outs) (rs := rs) (by omega) (by omega) w8 hd1 hd ho g
  obtain ⟨a7, l7, e8, b8, c8⟩ := refused_ok (cells := cells) (a := a6) (l := l6) (t := t ++ s3) (doors := doors) (outs := outs) (rs := rs) (by omega) (by omega) (wf_pn w8) hd1 hd ho g
  refine ⟨a7, l7, t ++ s3, some (.int doors), some (.int outs), some (.int rs.length), some (rowsL rs), some (rowsT' rs), some (.ref j), some (partV doors outs rs), some (partV doors outs rs), ?_, wf_pn w8, by omega, by omega⟩
  have q12 : bl12 [x0, some (.ref 0), x2, some (.int doors), some (.int outs), some (.int rs.length), some (rowsL rs), some (rowsT' rs), some (.ref j), some (partV doors outs rs), some (partV doors outs rs), none, none, none, none] (pnO cells a5 l5 :: (t ++ s3)) = .next [x0, some (.ref 0), x2, some (.int doors), some (.int outs), some (.int rs.length), some (rowsL rs), some (rowsT' rs), some (.ref j), some (partV doors outs rs), some (partV doors outs rs), none, none, none, none] (pnO cells a7 l7 :: (t ++ s3)) := by
    unfold bl12
    simp [e7, e8]
  rw [bl_eq]
  simp only [seq_ev, q1, q2, q3, q4, q5, q6, q7, q8, q9, q10, then_next]
  exact (congrArg (fun r => RS.then r bl12) q11).trans q12
end K03

set_option Elab.async false
set_option linter.all false
set_option maxRecDepth 100000
set_option maxHeartbeats 4000000
namespace K03
open PySem PySem.Spec PyProof.Rows L2 DL M
open PySem.W (Datum Tup)
def sl1 : SF := (asgS (callE (ordM [0] [] f__law_pen) (lenA 1 (consA (varE 0) nilA))) (nameG 1))
def sl2 : SF := (forS [2, 3, 4, 5, 6, 7, 8, 9, 10] (rng1It (consA (retE (.int 4)) nilA)) (nameG 2) b_law_2)
def sl3 : SF := (ifS (testT (binE eqX (callE (ordM [0, 1] [] f__law_draw) (lenA 2 (consA (varE 1) (consA (retE (.int 9)) nilA)))) (retE (.int 0)))) (seqS (asgS (lcE false (rng1It (consA (retE (.int 400)) nilA)) (CT.one 14) yesT e_law_20 [12, 14]) (nameG 11)) (ifS (orT (testT (binE neX (unE (fldM cfg.insL cfg.cErr cfg.F "many") (callE mk_Part_3 (lenA 3 (consA (retE (.int 1)) (consA (retE (.int 1)) (consA (varE 11) nilA)))))) (retE (.int 400)))) (testT (binE neX (hrdE o__law_heard (callE mk_Part_3 (lenA 3 (consA (retE (.int 1)) (consA (retE (.int 1)) (consA (binE (addM false) (varE 11) (lstE false (consA (lstE false (consA (lstE false (consA (retE (.int 0)) (consA (lstE false (consA (retE (.int 0)) nilA)) nilA))) nilA)) nilA))) nilA)))))) (tupE (consA (retE (.str "badpart")) (consA (retE (.str "rows")) nilA)))))) (retS (retE (.bl false))) skipS)) skipS)
def sl4 : SF := (retS (binE eqX (unE (fldM cfg.insL cfg.cErr cfg.F "rows") (callE mk_Part_3 (lenA 3 (consA (retE (.int 1)) (consA (retE (.int 0)) (consA (lstE false (consA (lstE false (consA (tupE (consA (retE (.int 0)) (consA (tupE nilA) nilA))) nilA)) nilA)) nilA)))))) (tupE (consA (tupE (consA (tupE (consA (retE (.int 0)) (consA (tupE nilA) nilA))) nilA)) nilA))))
theorem sl_eq : s_law = (seqS sl1 (seqS sl2 (seqS sl3 sl4))) := rfl
theorem pen_ok {ns : List Int} (hn : ns.length ≤ 63) : f__law_pen [.scr (ns.map .int)] [] = .ok (.ref 0) [pnO ns 0 0] := by
  unfold f__law_pen defM gc bodyM s__law_pen startM
  have e : cutM (ns.map MV.int) none (some 63) = ns.map MV.int := by
    rw [show (63 : Int) = ((63 : Nat) : Int) from rfl, cut_to, List.take_of_length_le (by rw [List.length_map]; exact hn)]
  simp [e]
  exact gc_keep rfl
def wideD (k : Nat) : Row := [(((k : Int) + 1).fmod 400, [(k : Int)])]
theorem wide_ok (h : MH) {x0 x1 x11 : Option MV} : lcLoop (rngI 0 400) (CT.one 14) yesT e_law_20 FUEL 0 [x0, x1, none, none, none, none, none, none, none, none, none, x11, none, none, none] h [] = .ok (((List.range 400).map wideD).map rowL) h := by
  rw [List.map_map]
  have hm : ItsH h (rngI 0 400) ((List.range 400).map fun k : Nat => MV.int (0 + (k : Int))) := its_h (its_rng 0 400)
  refine lc_mapD (f := fun k => rowL (wideD k)) hm (by rw [List.length_range]; omega) fun k _ => ?_
  unfold e_law_20 rowL wideD oneL
  simp
theorem wide_good : GRows 1 1 ((List.range 400).map wideD) := by
  refine ⟨by rw [List.length_map, List.length_range]; omega, by rw [List.length_map, List.length_range]; omega, fun r m => ?_⟩
  obtain ⟨k, mk, rfl⟩ := List.mem_map.mp m
  have hk := List.mem_range.mp mk
  refine ⟨rfl, fun p m => ?_⟩
  unfold wideD at m
  rw [List.mem_singleton] at m
  subst m
  refine ⟨by
    show (0 : Int) ≤ ((k : Int) + 1).fmod 400
    exact Int.fmod_nonneg_of_pos _ (by omega), ?_, rfl, fun x m => ?_⟩
  · rw [List.length_map, List.length_range]
    show ((k : Int) + 1).fmod 400 < 400
    exact Int.fmod_lt_of_pos _ (by omega)
  · rw [List.mem_singleton] at m
    subst m
    omega
theorem ne_bad {h : MH} : neX (.tup [.str "badpart", .str "rows"]) (.tup [.str "badpart", .str "rows"]) h = .ok (.bl false) h := by
  have q := (eqK_pl (ins := cfg.insN) (t := eqs) (h := h) (x := .tup [.str "badpart", .str "rows"]) (y := .tup [.str "badpart", .str "rows"]) (of_decide_eq_true rfl) (of_decide_eq_true rfl)).2
  refine q.trans ?_
  have e1 : SeqAt.shaped (.tuple [.str "badpart", .str "rows"]) = true := by decide +kernel
  have e2 : PyData.eqv (.tuple [.str "badpart", .str "rows"]) (.tuple [.str "badpart", .str "rows"]) = true := by decide +kernel
  show (if SeqAt.shaped (.tuple [.str "badpart", .str "rows"]) && SeqAt.shaped (.tuple [.str "badpart", .str "rows"]) then R.ok (MV.bl (!PyData.eqv (.tuple [.str "badpart", .str "rows"]) (.tuple [.str "badpart", .str "rows"]))) h else .bad) = _
  rw [e1, e2]
  rfl
theorem plain : ∀ ns : List Int, ns.length ≤ 63 → (∀ z ∈ ns, Builtin.Int.intBits z ≤ 1048576) → ∃ h', f_law [.scr (ns.map .int)] [] = .ok (.bl true) h' := by
  intro ns hn _
  suffices H : ∃ h', s_law (startM 15 [.scr (ns.map .int)]) [] = .ret (.bl true) h' by
    obtain ⟨h', e⟩ := H
    unfold f_law defM gc bodyM
    rw [e]
    show ∃ h'', gcR 0 (.ok (.bl true) h') = .ok (.bl true) h''
    unfold gcR
    dsimp only
    split
    · exact ⟨_, rfl⟩
    · split <;> exact ⟨_, rfl⟩
  have q1 : sl1 (startM 15 [.scr (ns.map .int)]) [] = .next [some (.scr (ns.map .int)), some (.ref 0), none, none, none, none, none, none, none, none, none, none, none, none, none] [pnO ns 0 0] := by
    unfold sl1 startM
    simp [pen_ok hn]
  -- the four turns
  have q2 : ∃ a l t, sl2 [some (.scr (ns.map .int)), some (.ref 0), none, none, none, none, none, none, none, none, none, none, none, none, none] [pnO ns 0 0] = .next [some (.scr (ns.map .int)), some (.ref 0), none, none, none, none, none, none, none, none, none, none, none, none, none] (pnO ns a l :: t) ∧ wf (pnO ns a l :: t) = true ∧ 0 ≤ a ∧ a ≤ 4000 := by
    have z := for_wp (mi := rngI 0 4) (xs := rgs 0 4) (cl := [2, 3, 4, 5, 6, 7, 8, 9, 10]) (g := nameG 2) (body := b_law_2) (its_rng 0 4) (by rw [rgs_len]; omega)
      (fun k μ h => ∃ a l t, μ = [some (.scr (ns.map .int)), some (.ref 0), none, none, none, none, none, none, none, none, none, none, none, none, none] ∧ h = pnO ns a l :: t ∧ wf h = true ∧ 0 ≤ a ∧ a ≤ 1000 * (k : Int))
      (fun r => ∃ a l t, r = .next [some (.scr (ns.map .int)), some (.ref 0), none, none, none, none, none, none, none, none, none, none, none, none, none] (pnO ns a l :: t) ∧ wf (pnO ns a l :: t) = true ∧ 0 ≤ a ∧ a ≤ 4000)
      (fun k x μ h hx ⟨a, l, t, p1, p2, p3, p4, p5⟩ => by
        subst p1 p2
        have hk : k < 4 := by
          have := (List.getElem?_eq_some_iff.mp hx).1
          rw [rgs_len] at this
          exact this
        obtain ⟨a', l', t', y3, y4, y5, y6, y7, y8, y9, y10, e, w, r1, r2⟩ := turn_ok (cells := ns) (a := a) (l := l) (t := t) (x0 := some (.scr (ns.map .int))) (x2 := some x) p4 (by omega) p3
        have e' : (((nameG 2 x [some (.scr (ns.map .int)), some (.ref 0), none, none, none, none, none, none, none, none, none, none, none, none, none] (pnO ns a l :: t)).only).then b_law_2) = .next [some (.scr (ns.map .int)), some (.ref 0), some x, y3, y4, y5, y6, y7, y8, y9, y10, none, none, none, none] (pnO ns a' l' :: t') := e
        rw [e']
        exact ⟨a', l', t', rfl, rfl, w, by omega, by omega⟩)
      (fun μ h ⟨a, l, t, p1, p2, p3, p4, p5⟩ => by
        subst p1 p2
        rw [rgs_len] at p5
        exact ⟨a, l, t, rfl, p3, p4, by omega⟩)
      (μ := [some (.scr (ns.map .int)), some (.ref 0), none, none, none, none, none, none, none, none, none, none, none, none, none]) (h := [pnO ns 0 0])
      ⟨0, 0, [], rfl, rfl, by rw [wf_tail]; rfl, Int.le_refl _, by omega⟩
    obtain ⟨a, l, t, e, r⟩ := z
    refine ⟨a, l, t, ?_, r⟩
    unfold sl2
    have rg : ∀ h, rng1K [.int 4] h = .ok (rngI 0 4) h := fun h => rng1K_n (n := 4) (by omega)
    simp [rg]
    exact e
  obtain ⟨a, l, t, q2, w, h0, h1⟩ := q2
  obtain ⟨v, a1, l1, e1, d1, b1, c1⟩ := draw_nat (cells := ns) (a := a) (l := l) (t := t) (many := 9) h0 (by omega) (by omega) (by omega)
  have w1 : wf (pnO ns a1 l1 :: t) = true := wf_pn w
  have q3 : ∃ μ, sl3 [some (.scr (ns.map .int)), some (.ref 0), none, none, none, none, none, none, none, none, none, none, none, none, none] (pnO ns a l :: t) = .next μ (pnO ns a1 l1 :: t) := by
    simp at e1
    by_cases hv : v = 0
    · subst hv
      refine ⟨[some (.scr (ns.map .int)), some (.ref 0), none, none, none, none, none, none, none, none, none, some (rowsL ((List.range 400).map wideD)), none, none, none], ?_⟩
      have p1 := (part_good w1 isRows_L (pl_tree (pt_rowsL (by omega) (by omega) wide_good)) wide_good (by omega) (by omega) (by omega)).1
      have rg : ∀ h, rng1K [.int 400] h = .ok (rngI 0 400) h := fun h => rng1K_n (n := 400) (by omega)
      have wd := wide_ok (pnO ns a1 l1 :: t) (x0 := some (.scr (ns.map .int))) (x1 := some (.ref 0)) (x11 := none)
      have ad : ∀ h, addM false (rowsL ((List.range 400).map wideD)) (.lst [.lst [.lst [.int 0, .lst [.int 0]]]]) h = .ok (rowsL ((List.range 400).map wideD ++ [[(0, [0])]])) h := fun h => by
        unfold rowsL
        rw [add_ll, if_pos (by have : LIM = 1000000 := rfl; rw [List.length_map, List.length_map, List.length_range]; simp; omega), List.map_append]
        rfl
      have k1 : o__law_heard (callE mk_Part_3 (lenA 3 (consA (retE (.int 1)) (consA (retE (.int 1)) (consA (binE (addM false) (varE 11) (lstE false (consA (lstE false (consA (lstE false (consA (retE (.int 0)) (consA (lstE false (consA (retE (.int 0)) nilA)) nilA))) nilA)) nilA))) nilA)))) [some (.scr (ns.map .int)), some (.ref 0), none, none, none, none, none, none, none, none, none, some (rowsL ((List.range 400).map wideD)), none, none, none]) (pnO ns a1 l1 :: t) = .ok (.tup [.str "badpart", .str "rows"]) (pnO ns a1 l1 :: t) := heard_x (.inr ⟨rfl, rfl⟩) w1 (by
        have wn := wf_add (o := .lst []) w1 rfl
        have pb : pt (rowsL ((List.range 400).map wideD ++ [[(0, [0])]])) = true := pt_lst (by simp) fun x m => by
          obtain ⟨r, mr, rfl⟩ := List.mem_map.mp m
          rcases List.mem_append.mp mr with mr | mr
          · exact pt_rowL (doors := 1) (many := ((List.range 400).map wideD).length) (outs := 1) (by omega) (by omega) (wide_good.hv r mr)
          · rw [List.mem_singleton] at mr
            subst mr
            decide
        have q := part3 (h := pnO ns a1 l1 :: t ++ [.lst []]) (d := .int 1) (o := .int 1) (r := rowsL ((List.range 400).map wideD ++ [[(0, [0])]])) wn (by simp) (by simp) fun _ _ => pl_tree pb
        rw [part_bad3 (by decide) (by decide) (by
          unfold rowsB
          show (decide _ && decide _ && _) = false
          rw [Bool.and_eq_false_iff]
          refine .inl (Bool.and_eq_false_iff.mpr (.inr (decide_eq_false ?_)))
          rw [List.length_map, List.length_append, List.length_map, List.length_range]
          simp)] at q
        simp at q
        simp [ad, q])
      have lw : (((List.range 400).map wideD).map rowL) = ((List.range 400).map wideD).map rowL := rfl
      have eL : (MV.lst (((List.range 400).map wideD).map rowL)) = rowsL ((List.range 400).map wideD) := rfl
      have pm : ∀ h, fldM cfg.insL cfg.cErr cfg.F "many" (partV 1 1 ((List.range 400).map wideD)) h = .ok (.int 400) h := fun h => by
        unfold partV
        rw [fm_Part_many, List.length_map, List.length_range]
        rfl
      simp only [Int.cast_ofNat_Int, Int.natCast_one] at p1
      unfold sl3
      simp only [ifS_ev, test_ev, bin_ev, call_ev, len_ev, cons_ev, nil_ev, var_s, var_0, retE_ev, bind_ok, ord_ev, pick_cons, pick_nil, List.length_cons, List.length_nil, if_true, List.append_nil, List.getElem?_cons_zero, List.getElem?_cons_succ, e1, eqK_ii, isB_ev, st_ok, decide_true, seq_ev, asg_ev, lc_ev, rng1_ev, rg, wipe_cons, wipe_nil, List.set, wd, mkL_f, name_ev, only_next, then_next, or_ev, un_ev, p1, pm, hrd_ev, k1, tup_ev, eL, ne_bad, neK_ii]
      simp [e1, rg, wd, eL, p1, pm, k1, ne_bad]
    · refine ⟨[some (.scr (ns.map .int)), some (.ref 0), none, none, none, none, none, none, none, none, none, none, none, none, none], ?_⟩
      unfold sl3
      simp [e1, hv]
  obtain ⟨μ, q3⟩ := q3
  have g0 : GRows 1 0 [[(0, [])]] := ⟨by simp, by simp, fun r m => by
    rw [List.mem_singleton] at m
    subst m
    exact ⟨rfl, fun p m => by
      rw [List.mem_singleton] at m
      subst m
      exact ⟨by simp, by simp, rfl, fun _ m => nomatch m⟩⟩⟩
  have i0 : isRows (pnO ns a1 l1 :: t) (.lst [.lst [.tup [.int 0, .tup []]]]) [[(0, [])]] := ⟨_, rfl, rfl, fun i o p q1 q2 => by
    cases i with
    | zero =>
      cases q1
      cases q2
      refine ⟨_, rfl, rfl, fun i o p q1 q2 => ?_⟩
      cases i with
      | zero =>
        cases q1
        cases q2
        exact ⟨_, rfl, rfl⟩
      | succ i => cases q1
    | succ i => cases q1⟩
  have p0 := (part_good w1 i0 (pl_tree (by decide)) g0 (by omega) (by omega) (by omega)).1
  have q4 : sl4 μ (pnO ns a1 l1 :: t) = .ret (.bl true) (pnO ns a1 l1 :: t) := by
    have eq0 : ∀ h, eqX (.tup [.tup [.tup [.int 0, .tup []]]]) (.tup [.tup [.tup [.int 0, .tup []]]]) h = .ok (.bl true) h := fun h =>
      ((eqK_pl (of_decide_eq_true rfl) (of_decide_eq_true rfl)).1).trans ((eq_en (α := Cv) (by decide) (conv [[(0, [])]]) (conv [[(0, [])]])).trans (by rw [decide_eq_true rfl]))
    have pm : ∀ h, fldM cfg.insL cfg.cErr cfg.F "rows" (partV 1 0 [[(0, [])]]) h = .ok (.tup [.tup [.tup [.int 0, .tup []]]]) h := fun h => by
      unfold partV
      rw [fm_Part_rows]
      rfl
    unfold sl4
    have p0 : mk_Part_3 [.int 1, .int 0, .lst [.lst [.tup [.int 0, .tup []]]]] (pnO ns a1 l1 :: t) = .ok (partV 1 0 [[(0, [])]]) (pnO ns a1 l1 :: t) := p0
    simp [p0, pm, eq0]
  refine ⟨pnO ns a1 l1 :: t, ?_⟩
  rw [sl_eq]
  simp only [seq_ev, q1, q2, q3, q4, then_next]
end K03

set_option Elab.async false
set_option linter.all false
set_option maxRecDepth 100000
set_option maxHeartbeats 8000000
namespace K03
open PySem PySem.Spec PyProof.Rows L2 DL M
def tb_is_integer (T : List (Addr × Str)) : Tb := { cfg.tb T with shp := [], eqs := [], gd := false, rai := [], hrd := [], lam := false, rf := [], cl := [], fz := [], fd := [] }
abbrev N_is_integer : List Str := ["value"]
abbrev P_is_integer : List Str := ["value"]
theorem sc_is_integer : FnScope N_is_integer P_is_integer (defScope (top 5)) := ⟨rfl, rfl, rfl, by decide +kernel, rfl, by decide +kernel, by decide +kernel⟩
theorem bok_is_integer (T : List (Addr × Str)) (k : Nat) : BOk (tb_is_integer T) k N_is_integer (defScope (top 5)) (defBody (top 5)) s_is_integer := bok_of (by kernel_rfl)
def tb_need_integer (T : List (Addr × Str)) : Tb := { cfg.tb T with shp := [⟨"is_integer", 1, [], (ordM [0] [] f_is_integer)⟩], eqs := [], gd := false, rai := [("BadNumber", "part")], hrd := [], lam := false, rf := [], cl := [], fz := [], fd := [] }
abbrev N_need_integer : List Str := ["part", "value", "least", "most"]
abbrev P_need_integer : List Str := ["part", "value", "least", "most"]
theorem sc_need_integer : FnScope N_need_integer P_need_integer (defScope (top 6)) := ⟨rfl, rfl, rfl, by decide +kernel, rfl, by decide +kernel, by decide +kernel⟩
theorem bok_need_integer (T : List (Addr × Str)) (k : Nat) : BOk (tb_need_integer T) k N_need_integer (defScope (top 6)) (defBody (top 6)) s_need_integer := bok_of (by kernel_rfl)
def tb_Part___eq__ (T : List (Addr × Str)) : Tb := { cfg.tb T with shp := [], eqs := [], gd := false, rai := [], hrd := [], lam := false, rf := [], cl := [], fz := [], fd := [] }
abbrev N_Part___eq__ : List Str := ["self", "other"]
abbrev P_Part___eq__ : List Str := ["self", "other"]
theorem sc_Part___eq__ : FnScope N_Part___eq__ P_Part___eq__ (defScope (meth 14 1)) := ⟨rfl, rfl, rfl, by decide +kernel, rfl, by decide +kernel, by decide +kernel⟩
theorem bok_Part___eq__ (T : List (Addr × Str)) (k : Nat) : BOk (tb_Part___eq__ T) k N_Part___eq__ (defScope (meth 14 1)) (defBody (meth 14 1)) s_Part___eq__ := bok_of (by kernel_rfl)
def tb_is_row (T : List (Addr × Str)) : Tb := { cfg.tb T with shp := [⟨"is_integer", 1, [], (ordM [0] [] f_is_integer)⟩], eqs := eqs, gd := false, rai := [], hrd := [], lam := false, rf := [], cl := [], fz := [], fd := [] }
abbrev N_is_row : List Str := ["value", "many", ".0", "part"]
abbrev P_is_row : List Str := ["value", "many"]
theorem sc_is_row : FnScope N_is_row P_is_row (defScope (top 7)) := ⟨rfl, rfl, rfl, by decide +kernel, rfl, by decide +kernel, by decide +kernel⟩
theorem bok_is_row (T : List (Addr × Str)) (k : Nat) : BOk (tb_is_row T) k N_is_row (defScope (top 7)) (defBody (top 7)) s_is_row := bok_of (by kernel_rfl)
def tb_is_counts (T : List (Addr × Str)) : Tb := { cfg.tb T with shp := [⟨"is_row", 2, [], (ordM [0, 1] [] f_is_row)⟩], eqs := [], gd := false, rai := [], hrd := [], lam := false, rf := [], cl := [], fz := [], fd := [] }
abbrev N_is_counts : List Str := ["value", "many", ".0", "part"]
abbrev P_is_counts : List Str := ["value", "many"]
theorem sc_is_counts : FnScope N_is_counts P_is_counts (defScope (top 8)) := ⟨rfl, rfl, rfl, by decide +kernel, rfl, by decide +kernel, by decide +kernel⟩
theorem bok_is_counts (T : List (Addr × Str)) (k : Nat) : BOk (tb_is_counts T) k N_is_counts (defScope (top 8)) (defBody (top 8)) s_is_counts := bok_of (by kernel_rfl)
def tb_is_pass (T : List (Addr × Str)) : Tb := { cfg.tb T with shp := [⟨"is_integer", 1, [], (ordM [0] [] f_is_integer)⟩, ⟨"is_counts", 2, [], (ordM [0, 1] [] f_is_counts)⟩], eqs := eqs, gd := false, rai := [], hrd := [], lam := false, rf := [], cl := [], fz := [], fd := [] }
abbrev N_is_pass : List Str := ["value", "many", "outs", ".0", "one"]
abbrev P_is_pass : List Str := ["value", "many", "outs"]
theorem sc_is_pass : FnScope N_is_pass P_is_pass (defScope (top 15)) := ⟨rfl, rfl, rfl, by decide +kernel, rfl, by decide +kernel, by decide +kernel⟩
theorem bok_is_pass (T : List (Addr × Str)) (k : Nat) : BOk (tb_is_pass T) k N_is_pass (defScope (top 15)) (defBody (top 15)) s_is_pass := bok_of (by kernel_rfl)
def tb_need_rows (T : List (Addr × Str)) : Tb := { cfg.tb T with shp := [⟨"is_pass", 3, [], (ordM [0, 1, 2] [] f_is_pass)⟩], eqs := eqs, gd := false, rai := [("BadPart", "part")], hrd := [], lam := false, rf := [], cl := [(53, [3])], fz := [], fd := [] }
abbrev N_need_rows : List Str := ["rows", "doors", "outs", "row", ".0", "one"]
abbrev P_need_rows : List Str := ["rows", "doors", "outs"]
theorem sc_need_rows : FnScope N_need_rows P_need_rows (defScope (top 16)) := ⟨rfl, rfl, rfl, by decide +kernel, rfl, by decide +kernel, by decide +kernel⟩
theorem bok_need_rows (T : List (Addr × Str)) (k : Nat) : BOk (tb_need_rows T) k N_need_rows (defScope (top 16)) (defBody (top 16)) s_need_rows := bok_of (by kernel_rfl)
def tb_Part___init__ (T : List (Addr × Str)) : Tb := { cfg.tb T with shp := [⟨"need_integer", 4, [], (ordM [0, 1, 2, 3] [.non] f_need_integer)⟩, ⟨"need_rows", 3, [], (ordM [0, 1, 2] [] f_need_rows)⟩], eqs := [], gd := false, rai := [], hrd := [], lam := false, rf := [], cl := [], fz := [], fd := [] }
abbrev N_Part___init__ : List Str := ["self", "doors", "outs", "rows"]
abbrev P_Part___init__ : List Str := ["self", "doors", "outs", "rows"]
theorem sc_Part___init__ : FnScope N_Part___init__ P_Part___init__ (defScope (meth 14 0)) := ⟨rfl, rfl, rfl, by decide +kernel, rfl, by decide +kernel, by decide +kernel⟩
theorem bok_Part___init__ (T : List (Addr × Str)) (k : Nat) : BOk (tb_Part___init__ T) k N_Part___init__ (defScope (meth 14 0)) (defBody (meth 14 0)) s_Part___init__ := bok_of (by kernel_rfl)
def tb__law_pen (T : List (Addr × Str)) : Tb := { cfg.tb T with shp := [], eqs := [], gd := true, rai := [], hrd := [], lam := false, rf := [(61, 11, 36)], cl := [], fz := [], fd := [] }
abbrev N__law_pen : List Str := ["script"]
abbrev P__law_pen : List Str := ["script"]
theorem sc__law_pen : FnScope N__law_pen P__law_pen (defScope (top 18)) := ⟨rfl, rfl, rfl, by decide +kernel, rfl, by decide +kernel, by decide +kernel⟩
theorem bok__law_pen (T : List (Addr × Str)) (k : Nat) : BOk (tb__law_pen T) k N__law_pen (defScope (top 18)) (defBody (top 18)) s__law_pen := bok_of (by kernel_rfl)
def tb__law_draw (T : List (Addr × Str)) : Tb := { cfg.tb T with shp := [], eqs := eqs, gd := true, rai := [], hrd := [], lam := false, rf := [], cl := [], fz := [], fd := [] }
abbrev N__law_draw : List Str := ["pen", "many", "digit", "at", "cell", "great", "mixed"]
abbrev P__law_draw : List Str := ["pen", "many"]
theorem sc__law_draw : FnScope N__law_draw P__law_draw (defScope (top 19)) := ⟨rfl, rfl, rfl, by decide +kernel, rfl, by decide +kernel, by decide +kernel⟩
theorem bok__law_draw (T : List (Addr × Str)) (k : Nat) : BOk (tb__law_draw T) k N__law_draw (defScope (top 19)) (defBody (top 19)) s__law_draw := bok_of (by kernel_rfl)
def tb__law_pick (T : List (Addr × Str)) : Tb := { cfg.tb T with shp := [⟨"_law_draw", 2, [], (ordM [0, 1] [] f__law_draw)⟩], eqs := [], gd := true, rai := [], hrd := [], lam := false, rf := [], cl := [], fz := [], fd := [] }
abbrev N__law_pick : List Str := ["pen", "some"]
abbrev P__law_pick : List Str := ["pen", "some"]
theorem sc__law_pick : FnScope N__law_pick P__law_pick (defScope (top 20)) := ⟨rfl, rfl, rfl, by decide +kernel, rfl, by decide +kernel, by decide +kernel⟩
theorem bok__law_pick (T : List (Addr × Str)) (k : Nat) : BOk (tb__law_pick T) k N__law_pick (defScope (top 20)) (defBody (top 20)) s__law_pick := bok_of (by kernel_rfl)
def tb__law_heard (T : List (Addr × Str)) : Tb := { cfg.tb T with shp := [], eqs := eqs, gd := true, rai := [], hrd := [], lam := false, rf := [(82, 39, 41)], cl := [], fz := [], fd := [] }
abbrev N__law_heard : List Str := ["ask", "found", "caught", "told", "error"]
abbrev P__law_heard : List Str := ["ask"]
theorem sc__law_heard : FnScope N__law_heard P__law_heard (defScope (top 21)) := ⟨rfl, rfl, rfl, by decide +kernel, rfl, by decide +kernel, by decide +kernel⟩
theorem bok__law_heard (T : List (Addr × Str)) (k : Nat) (O : Ot) (f : Addr) (θ : MH → R MV) : BOk { tb__law_heard T with thk := some ("ask", 0, f, θ), O := O } k N__law_heard (defScope (top 21)) (defBody (top 21)) (s__law_heard f θ) := bok_of (by kernel_rfl)
def tb__law_rows (T : List (Addr × Str)) : Tb := { cfg.tb T with shp := [⟨"_law_pick", 2, [], (ordM [0, 1] [] f__law_pick)⟩, ⟨"_law_draw", 2, [], (ordM [0, 1] [] f__law_draw)⟩], eqs := [], gd := true, rai := [], hrd := [], lam := false, rf := [], cl := [], fz := [], fd := [] }
abbrev N__law_rows : List Str := ["pen", "doors", "outs", "many", "size", ".0", "spot", "door", "out"]
abbrev P__law_rows : List Str := ["pen", "doors", "outs", "many"]
theorem sc__law_rows : FnScope N__law_rows P__law_rows (defScope (top 22)) := ⟨rfl, rfl, rfl, by decide +kernel, rfl, by decide +kernel, by decide +kernel⟩
theorem bok__law_rows (T : List (Addr × Str)) (k : Nat) : BOk (tb__law_rows T) k N__law_rows (defScope (top 22)) (defBody (top 22)) s__law_rows := bok_of (by kernel_rfl)
def tb__law_tupled (T : List (Addr × Str)) : Tb := { cfg.tb T with shp := [], eqs := [], gd := true, rai := [], hrd := [], lam := false, rf := [], cl := [], fz := [], fd := [] }
abbrev N__law_tupled : List Str := ["rows", ".0", "row", "one"]
abbrev P__law_tupled : List Str := ["rows"]
theorem sc__law_tupled : FnScope N__law_tupled P__law_tupled (defScope (top 23)) := ⟨rfl, rfl, rfl, by decide +kernel, rfl, by decide +kernel, by decide +kernel⟩
theorem bok__law_tupled (T : List (Addr × Str)) (k : Nat) : BOk (tb__law_tupled T) k N__law_tupled (defScope (top 23)) (defBody (top 23)) s__law_tupled := bok_of (by kernel_rfl)
def tb__law_copy (T : List (Addr × Str)) : Tb := { cfg.tb T with shp := [], eqs := [], gd := true, rai := [], hrd := [], lam := false, rf := [(100, 11, 68), (100, 12, 51), (100, 13, 35), (100, 22, 34)], cl := [], fz := [], fd := [] }
abbrev N__law_copy : List Str := ["rows", ".0", "row", "one"]
abbrev P__law_copy : List Str := ["rows"]
theorem sc__law_copy : FnScope N__law_copy P__law_copy (defScope (top 24)) := ⟨rfl, rfl, rfl, by decide +kernel, rfl, by decide +kernel, by decide +kernel⟩
theorem bok__law_copy (T : List (Addr × Str)) (k : Nat) : BOk (tb__law_copy T) k N__law_copy (defScope (top 24)) (defBody (top 24)) s__law_copy := bok_of (by kernel_rfl)
def tb__law_wrong (T : List (Addr × Str)) : Tb := { cfg.tb T with shp := [⟨"_law_draw", 2, [], (ordM [0, 1] [] f__law_draw)⟩, ⟨"_law_copy", 1, [], (ordM [0] [] f__law_copy)⟩, ⟨"_law_pick", 2, [], (ordM [0, 1] [] f__law_pick)⟩], eqs := eqs, gd := true, rai := [], hrd := [], lam := false, rf := [], cl := [], fz := [], fd := [(105, [5]), (107, [1005]), (118, [5])] }
abbrev N__law_wrong : List Str := ["pen", "rows", "doors", "outs", "many", "found", "way", "at", "door"]
abbrev P__law_wrong : List Str := ["pen", "rows", "doors", "outs"]
theorem sc__law_wrong : FnScope N__law_wrong P__law_wrong (defScope (top 25)) := ⟨rfl, rfl, rfl, by decide +kernel, rfl, by decide +kernel, by decide +kernel⟩
theorem bok__law_wrong (T : List (Addr × Str)) (k : Nat) : BOk (tb__law_wrong T) k N__law_wrong (defScope (top 25)) (defBody (top 25)) s__law_wrong := bok_of (by kernel_rfl)
def tb__law_refused (T : List (Addr × Str)) : Tb := { cfg.tb T with shp := [⟨"_law_wrong", 4, [], (ordM [0, 1, 2, 3] [] f__law_wrong)⟩, ⟨"_law_pick", 2, [], (ordM [0, 1] [] f__law_pick)⟩, ⟨"Part", 3, [], mk_Part_3⟩, ⟨"Part", 0, ["rows", "outs", "doors"], mk_Part_0_rows_outs_doors⟩], eqs := eqs, gd := true, rai := [], hrd := [⟨"_law_heard", o__law_heard⟩], lam := true, rf := [(121, 12, 55)], cl := [], fz := [], fd := [] }
abbrev N__law_refused : List Str := ["pen", "doors", "outs", "rows", "heard", "bad", "odd", "wrong"]
abbrev P__law_refused : List Str := ["pen", "doors", "outs", "rows"]
theorem sc__law_refused : FnScope N__law_refused P__law_refused (defScope (top 26)) := ⟨rfl, rfl, rfl, by decide +kernel, rfl, by decide +kernel, by decide +kernel⟩
theorem bok__law_refused (T : List (Addr × Str)) (k : Nat) : BOk (tb__law_refused T) k N__law_refused (defScope (top 26)) (defBody (top 26)) s__law_refused := bok_of (by kernel_rfl)
def tb__law_other (T : List (Addr × Str)) : Tb := { cfg.tb T with shp := [⟨"_law_draw", 2, [], (ordM [0, 1] [] f__law_draw)⟩, ⟨"_law_copy", 1, [], (ordM [0] [] f__law_copy)⟩, ⟨"Part", 3, [], mk_Part_3⟩], eqs := [], gd := true, rai := [], hrd := [], lam := false, rf := [(128, 13, 49)], cl := [], fz := [(138, [7])], fd := [(131, [4]), (135, [4])] }
abbrev N__law_other : List Str := ["pen", "doors", "outs", "rows", "found", "at", "door", "others", ".0", "row", "one"]
abbrev P__law_other : List Str := ["pen", "doors", "outs", "rows"]
theorem sc__law_other : FnScope N__law_other P__law_other (defScope (top 27)) := ⟨rfl, rfl, rfl, by decide +kernel, rfl, by decide +kernel, by decide +kernel⟩
theorem bok__law_other (T : List (Addr × Str)) (k : Nat) : BOk (tb__law_other T) k N__law_other (defScope (top 27)) (defBody (top 27)) s__law_other := bok_of (by kernel_rfl)
def tb_law (T : List (Addr × Str)) : Tb := { cfg.tb T with shp := [⟨"_law_pen", 1, [], (ordM [0] [] f__law_pen)⟩, ⟨"_law_pick", 2, [], (ordM [0, 1] [] f__law_pick)⟩, ⟨"_law_draw", 2, [], (ordM [0, 1] [] f__law_draw)⟩, ⟨"_law_rows", 4, [], (ordM [0, 1, 2, 3] [] f__law_rows)⟩, ⟨"_law_copy", 1, [], (ordM [0] [] f__law_copy)⟩, ⟨"_law_tupled", 1, [], (ordM [0] [] f__law_tupled)⟩, ⟨"Part", 3, [], mk_Part_3⟩, ⟨"Part", 0, ["rows", "outs", "doors"], mk_Part_0_rows_outs_doors⟩, ⟨"_law_other", 4, [], (ordM [0, 1, 2, 3] [] f__law_other)⟩, ⟨"_law_refused", 4, [], (ordM [0, 1, 2, 3] [] f__law_refused)⟩], eqs := eqs, gd := true, rai := [], hrd := [⟨"_law_heard", o__law_heard⟩], lam := true, rf := [], cl := [(141, [2, 3, 4, 5, 6, 7, 8, 9, 10])], fz := [], fd := [] }
abbrev N_law : List Str := ["script", "pen", "turn", "doors", "outs", "many", "rows", "due", "given", "part", "same", "wide", ".0", "other", "at"]
abbrev P_law : List Str := ["script"]
theorem sc_law : FnScope N_law P_law (defScope (top 28)) := ⟨rfl, rfl, rfl, by decide +kernel, rfl, by decide +kernel, by decide +kernel⟩
theorem bok_law (T : List (Addr × Str)) (k : Nat) : BOk (tb_law T) k N_law (defScope (top 28)) (defBody (top 28)) s_law := bok_of (by kernel_rfl)
end K03

set_option Elab.async false
set_option linter.all false
set_option maxRecDepth 100000
set_option maxHeartbeats 8000000
namespace K03
open PySem PySem.Spec PyProof.Rows L2 DL M
theorem ho__law_heard (f : Addr) (θ : MH → R MV) (h : MH) : o__law_heard θ h = .bad ∨ gcR h.length (retOf (s__law_heard f θ (startM 5 [.raw f]) h)) = o__law_heard θ h := .inr (by
  unfold o__law_heard
  congr 2
  unfold s__law_heard
  have e : ∀ f, thkE 0 f θ [some (.raw f), some .non, some .non, some (.ref h.length), none] (h ++ [.lst []]) = θ (h ++ [.lst []]) := fun f => by simp [thkE]
  show RS.then (afterS [0] (tryS cfg.errN 4 2 (asgS (thkE 0 f θ) (nameG 1))) [some (.raw f), some .non, some .non, some (.ref h.length), none] (h ++ [.lst []])) _ = RS.then (afterS [0] (tryS cfg.errN 4 2 (asgS (thkE 0 0 θ) (nameG 1))) [some (.raw 0), some .non, some .non, some (.ref h.length), none] (h ++ [.lst []])) _
  congr 1
  unfold afterS tryS asgS
  rw [e f, e 0]
  cases θ (h ++ [.lst []]) with
  | ok v h1 => rfl
  | exc C vs h1 =>
    dsimp only [R.st]
    generalize cfg.errN.contains C = b
    cases b <;> rfl
  | bad => rfl)
end K03

set_option Elab.async false
set_option linter.all false
set_option maxRecDepth 100000
set_option maxHeartbeats 0
namespace K03
open PySem PySem.Spec PyProof.Rows L2 DL M
def fn : List He.DefD := [⟨("is_integer", none), "is_integer", "is_integer", defArgs (top 5), defBody (top 5), defScope (top 5), [], []⟩,
  ⟨("need_integer", none), "need_integer", "need_integer", defArgs (top 6), defBody (top 6), defScope (top 6), [.non], []⟩,
  ⟨("Part", some "__eq__"), "__eq__", "Part.__eq__", defArgs (meth 14 1), defBody (meth 14 1), defScope (meth 14 1), [], []⟩,
  ⟨("is_row", none), "is_row", "is_row", defArgs (top 7), defBody (top 7), defScope (top 7), [], []⟩,
  ⟨("is_counts", none), "is_counts", "is_counts", defArgs (top 8), defBody (top 8), defScope (top 8), [], []⟩,
  ⟨("is_pass", none), "is_pass", "is_pass", defArgs (top 15), defBody (top 15), defScope (top 15), [], []⟩,
  ⟨("need_rows", none), "need_rows", "need_rows", defArgs (top 16), defBody (top 16), defScope (top 16), [], []⟩,
  ⟨("Part", some "__init__"), "__init__", "Part.__init__", defArgs (meth 14 0), defBody (meth 14 0), defScope (meth 14 0), [], []⟩,
  ⟨("_law_pen", none), "_law_pen", "_law_pen", defArgs (top 18), defBody (top 18), defScope (top 18), [], []⟩,
  ⟨("_law_draw", none), "_law_draw", "_law_draw", defArgs (top 19), defBody (top 19), defScope (top 19), [], []⟩,
  ⟨("_law_pick", none), "_law_pick", "_law_pick", defArgs (top 20), defBody (top 20), defScope (top 20), [], []⟩,
  ⟨("_law_heard", none), "_law_heard", "_law_heard", defArgs (top 21), defBody (top 21), defScope (top 21), [], []⟩,
  ⟨("_law_rows", none), "_law_rows", "_law_rows", defArgs (top 22), defBody (top 22), defScope (top 22), [], []⟩,
  ⟨("_law_tupled", none), "_law_tupled", "_law_tupled", defArgs (top 23), defBody (top 23), defScope (top 23), [], []⟩,
  ⟨("_law_copy", none), "_law_copy", "_law_copy", defArgs (top 24), defBody (top 24), defScope (top 24), [], []⟩,
  ⟨("_law_wrong", none), "_law_wrong", "_law_wrong", defArgs (top 25), defBody (top 25), defScope (top 25), [], []⟩,
  ⟨("_law_refused", none), "_law_refused", "_law_refused", defArgs (top 26), defBody (top 26), defScope (top 26), [], []⟩,
  ⟨("_law_other", none), "_law_other", "_law_other", defArgs (top 27), defBody (top 27), defScope (top 27), [], []⟩,
  ⟨("law", none), "law", "law", defArgs (top 28), defBody (top 28), defScope (top 28), [], []⟩,
  ⟨("BadNumber", some "__init__"), "__init__", "BadNumber.__init__", defArgs (meth 2 0), defBody (meth 2 0), defScope (meth 2 0), [], []⟩,
  ⟨("BadPart", some "__init__"), "__init__", "BadPart.__init__", defArgs (meth 3 0), defBody (meth 3 0), defScope (meth 3 0), [], []⟩]
def tf : List Str := ["_law_refused", "law"]
def exK (K : PySem.W.Frag) : Bool := (cfg.ok K && (mkB K "Part" && (eqB K cfg.insN "Part" && (errB K "BadNumber" "part" && (errB K "BadPart" "part" && apartB K tf)))))
abbrev R : PySem.W.OpenRow := PySem.W.OpenLaw.row PySem.Challenge.rw_countsalone_k03_parts_made_and_refused
abbrev tfD : List He.Defn := tf.map fun x => (x, none)
abbrev hk : PySem.W.Hook := He.hookX 4 [] fn [] tfD exK
def ob (s : PySem.W.SharedT) : He.AlX := He.obsX 4 [] fn [] tfD exK (HandSHeadRun.getT s)
theorem ob_eq (s : PySem.W.SharedT) : ob s = hk.obs s.abs := He.obsX_eq (HandSHeadRun.getT_eq s)
def loose0 : List Str := ["__name__", "MarbleError", "BadNumber", "BadPart", "is_integer", "need_integer", "is_row", "is_counts", "Part", "is_pass", "need_rows", "_law_pen", "_law_draw", "_law_pick", "_law_heard", "_law_rows", "_law_tupled", "_law_copy", "_law_wrong", "_law_refused", "_law_other", "MOST_DOORS", "MOST_OUTS", "MOST_POSITIONS", "MOST_GIVES"]
def loose : List Str := loose0
abbrev qv : Program := PySem.W.view R.prog [28]
theorem run (w : World) : HandSHeadRun.RunEq R qv hk ob 8000 loose w := by
  intro os
  kernel_rfl
end K03

set_option Elab.async false
set_option linter.all false
set_option maxRecDepth 100000
set_option maxHeartbeats 8000000
namespace K03
open PySem PySem.Spec PyProof.Rows L2 DL M
abbrev PP : Program := PySem.Challenge.rw_countsalone_k03_parts_made_and_refused.prog
theorem facts {w : World} {K : PySem.W.Frag} {h : Heap} {mg : Str → Option Value} {f : Addr} (X : K.In h) (G : h.Ns mainGlobals mg) (hfa : mg ("law" : Str) = some (.ref f)) (c : He.SaysX [] fn [] tfD exK w h K)
    (pl : ∀ ns : List Int, ns.length ≤ 63 → (∀ z ∈ ns, Builtin.Int.intBits z ≤ 1048576) → ∃ h', f_law [.scr (ns.map .int)] [] = .ok (.bl true) h') : DL.LawAtG PySem.Challenge.rw_countsalone_k03_parts_made_and_refused w K (L2.CX PP w) 16 63 "script" mg f h := by
  have cd := c.t.d
  obtain ⟨d_is_integer, F_is_integer⟩ := cd.def_ 0 rfl
  replace F_is_integer : FunD K "is_integer" "is_integer" (defArgs (top 5)) (defBody (top 5)) (defScope (top 5)) [] [] (He.ga K "is_integer") d_is_integer := F_is_integer
  obtain ⟨d_need_integer, F_need_integer⟩ := cd.def_ 1 rfl
  replace F_need_integer : FunD K "need_integer" "need_integer" (defArgs (top 6)) (defBody (top 6)) (defScope (top 6)) [.non] [] (He.ga K "need_integer") d_need_integer := F_need_integer
  obtain ⟨d_Part___eq__, F_Part___eq__⟩ := cd.def_ 2 rfl
  replace F_Part___eq__ : FunD K "__eq__" "Part.__eq__" (defArgs (meth 14 1)) (defBody (meth 14 1)) (defScope (meth 14 1)) [] [] (He.ma K (He.ga K "Part") "__eq__") d_Part___eq__ := F_Part___eq__
  obtain ⟨d_is_row, F_is_row⟩ := cd.def_ 3 rfl
  replace F_is_row : FunD K "is_row" "is_row" (defArgs (top 7)) (defBody (top 7)) (defScope (top 7)) [] [] (He.ga K "is_row") d_is_row := F_is_row
  obtain ⟨d_is_counts, F_is_counts⟩ := cd.def_ 4 rfl
  replace F_is_counts : FunD K "is_counts" "is_counts" (defArgs (top 8)) (defBody (top 8)) (defScope (top 8)) [] [] (He.ga K "is_counts") d_is_counts := F_is_counts
  obtain ⟨d_is_pass, F_is_pass⟩ := cd.def_ 5 rfl
  replace F_is_pass : FunD K "is_pass" "is_pass" (defArgs (top 15)) (defBody (top 15)) (defScope (top 15)) [] [] (He.ga K "is_pass") d_is_pass := F_is_pass
  obtain ⟨d_need_rows, F_need_rows⟩ := cd.def_ 6 rfl
  replace F_need_rows : FunD K "need_rows" "need_rows" (defArgs (top 16)) (defBody (top 16)) (defScope (top 16)) [] [] (He.ga K "need_rows") d_need_rows := F_need_rows
  obtain ⟨d_Part___init__, F_Part___init__⟩ := cd.def_ 7 rfl
  replace F_Part___init__ : FunD K "__init__" "Part.__init__" (defArgs (meth 14 0)) (defBody (meth 14 0)) (defScope (meth 14 0)) [] [] (He.ma K (He.ga K "Part") "__init__") d_Part___init__ := F_Part___init__
  obtain ⟨d__law_pen, F__law_pen⟩ := cd.def_ 8 rfl
  replace F__law_pen : FunD K "_law_pen" "_law_pen" (defArgs (top 18)) (defBody (top 18)) (defScope (top 18)) [] [] (He.ga K "_law_pen") d__law_pen := F__law_pen
  obtain ⟨d__law_draw, F__law_draw⟩ := cd.def_ 9 rfl
  replace F__law_draw : FunD K "_law_draw" "_law_draw" (defArgs (top 19)) (defBody (top 19)) (defScope (top 19)) [] [] (He.ga K "_law_draw") d__law_draw := F__law_draw
  obtain ⟨d__law_pick, F__law_pick⟩ := cd.def_ 10 rfl
  replace F__law_pick : FunD K "_law_pick" "_law_pick" (defArgs (top 20)) (defBody (top 20)) (defScope (top 20)) [] [] (He.ga K "_law_pick") d__law_pick := F__law_pick
  obtain ⟨d__law_heard, F__law_heard⟩ := cd.def_ 11 rfl
  replace F__law_heard : FunD K "_law_heard" "_law_heard" (defArgs (top 21)) (defBody (top 21)) (defScope (top 21)) [] [] (He.ga K "_law_heard") d__law_heard := F__law_heard
  obtain ⟨d__law_rows, F__law_rows⟩ := cd.def_ 12 rfl
  replace F__law_rows : FunD K "_law_rows" "_law_rows" (defArgs (top 22)) (defBody (top 22)) (defScope (top 22)) [] [] (He.ga K "_law_rows") d__law_rows := F__law_rows
  obtain ⟨d__law_tupled, F__law_tupled⟩ := cd.def_ 13 rfl
  replace F__law_tupled : FunD K "_law_tupled" "_law_tupled" (defArgs (top 23)) (defBody (top 23)) (defScope (top 23)) [] [] (He.ga K "_law_tupled") d__law_tupled := F__law_tupled
  obtain ⟨d__law_copy, F__law_copy⟩ := cd.def_ 14 rfl
  replace F__law_copy : FunD K "_law_copy" "_law_copy" (defArgs (top 24)) (defBody (top 24)) (defScope (top 24)) [] [] (He.ga K "_law_copy") d__law_copy := F__law_copy
  obtain ⟨d__law_wrong, F__law_wrong⟩ := cd.def_ 15 rfl
  replace F__law_wrong : FunD K "_law_wrong" "_law_wrong" (defArgs (top 25)) (defBody (top 25)) (defScope (top 25)) [] [] (He.ga K "_law_wrong") d__law_wrong := F__law_wrong
  obtain ⟨d__law_refused, F__law_refused⟩ := cd.def_ 16 rfl
  replace F__law_refused : FunD K "_law_refused" "_law_refused" (defArgs (top 26)) (defBody (top 26)) (defScope (top 26)) [] [] (He.ga K "_law_refused") d__law_refused := F__law_refused
  obtain ⟨d__law_other, F__law_other⟩ := cd.def_ 17 rfl
  replace F__law_other : FunD K "_law_other" "_law_other" (defArgs (top 27)) (defBody (top 27)) (defScope (top 27)) [] [] (He.ga K "_law_other") d__law_other := F__law_other
  obtain ⟨d_law, F_law⟩ := cd.def_ 18 rfl
  replace F_law : FunD K "law" "law" (defArgs (top 28)) (defBody (top 28)) (defScope (top 28)) [] [] (He.ga K "law") d_law := F_law
  obtain ⟨d_BadNumber___init__, F_BadNumber___init__⟩ := cd.def_ 19 rfl
  replace F_BadNumber___init__ : FunD K "__init__" "BadNumber.__init__" (defArgs (meth 2 0)) (defBody (meth 2 0)) (defScope (meth 2 0)) [] [] (He.ma K (He.ga K "BadNumber") "__init__") d_BadNumber___init__ := F_BadNumber___init__
  obtain ⟨d_BadPart___init__, F_BadPart___init__⟩ := cd.def_ 20 rfl
  replace F_BadPart___init__ : FunD K "__init__" "BadPart.__init__" (defArgs (meth 3 0)) (defBody (meth 3 0)) (defScope (meth 3 0)) [] [] (He.ma K (He.ga K "BadPart") "__init__") d_BadPart___init__ := F_BadPart___init__
  have ex : exK K = true := c.more
  unfold exK at ex
  simp only [Bool.and_eq_true] at ex
  obtain ⟨x0, x1, x2, x3, x4, x5⟩ := ex
  have B := cfg.fb (w := w) X G x0
  have e := hfa.symm.trans (B.gl "law" (by decide +kernel))
  cases e
  refine law_at (F := cfg.F) (o := f_law) X c F_law (fun _ _ _ _ _ _ us hl => match us, hl with | [_], _ => rfl) (fun base KB NB hTB => ?_) pl
  let T := lamT K tf
  have XC_BadNumber : XCls PP w K mg base "BadNumber" "part" (He.ga K "BadNumber") := errB_ok x3 (B.gl _ (by decide +kernel)) F_BadNumber___init__ (F_BadNumber___init__.bindsN fun _ _ _ _ _ _ us hl => match us, hl with | [_, _], _ => rfl) (xi_ok F_BadNumber___init__ ⟨rfl, rfl, rfl, by decide +kernel, rfl, by decide +kernel, by decide +kernel⟩ rfl rfl rfl (by decide) (by decide))
  have XC_BadPart : XCls PP w K mg base "BadPart" "part" (He.ga K "BadPart") := errB_ok x4 (B.gl _ (by decide +kernel)) F_BadPart___init__ (F_BadPart___init__.bindsN fun _ _ _ _ _ _ us hl => match us, hl with | [_, _], _ => rfl) (xi_ok F_BadPart___init__ ⟨rfl, rfl, rfl, by decide +kernel, rfl, by decide +kernel, by decide +kernel⟩ rfl rfl rfl (by decide) (by decide))
  have fx_is_integer : Fx (tb_is_integer T) 2 PP w K mg base := B.fx rfl all_nil all_nil all_nil all_nil
  have ok_is_integer : FnM false PP w K mg base 3 (He.ga K "is_integer") d_is_integer P_is_integer (spM K cfg.F T 1 f_is_integer) := def_ok F_is_integer sc_is_integer fx_is_integer (by decide) rfl (fun e => by cases e) rfl rfl (bok_is_integer T 2)
  have ca_is_integer_1 : ∀ gd k, 3 ≤ k → (false = true → gd = true) → CallF PP w K mg base cfg.F T gd k ⟨"is_integer", 1, [], (ordM [0] [] f_is_integer)⟩ := fun gd k hk hg => call_def F_is_integer (B.gl _ (by decide +kernel)) ok_is_integer hg hk (fun _ _ _ _ _ _ us ws hu hw => match us, ws, hu, hw with | [_], [], _, _ => rfl) (fun l hl => match l, hl with | [_], _ => rfl)
  have fx_need_integer : Fx (tb_need_integer T) 3 PP w K mg base := B.fx rfl all_nil (all_cons (ca_is_integer_1 _ _ (by decide) (fun e => by cases e)) all_nil) (all_cons ⟨XC_BadNumber, rfl⟩ all_nil) all_nil
  have ok_need_integer : FnM false PP w K mg base 4 (He.ga K "need_integer") d_need_integer P_need_integer (spM K cfg.F T 4 f_need_integer) := def_ok F_need_integer sc_need_integer fx_need_integer (by decide) rfl (fun e => by cases e) rfl rfl (bok_need_integer T 3)
  have ca_need_integer_4 : ∀ gd k, 4 ≤ k → (false = true → gd = true) → CallF PP w K mg base cfg.F T gd k ⟨"need_integer", 4, [], (ordM [0, 1, 2, 3] [.non] f_need_integer)⟩ := fun gd k hk hg => call_defD F_need_integer (B.gl _ (by decide +kernel)) ok_need_integer hg hk (by simp) (fun _ _ _ _ _ => (.cons (.non) .nil)) (fun T kV doc pm an cdv ct us ws its hu hw hi => match us, ws, its, hu, hw, hi with | [_, _, _, _], [], [_], _, _, _ => ⟨_, rfl, rfl⟩) (fun l hl => match l, hl with | [_, _, _, _, _], _ => rfl)
  have fx_Part___eq__ : Fx (tb_Part___eq__ T) 2 PP w K mg base := B.fx rfl all_nil all_nil all_nil all_nil
  have ok_Part___eq__ : FnM false PP w K mg base 3 (He.ma K (He.ga K "Part") "__eq__") d_Part___eq__ P_Part___eq__ (spM K cfg.F T 2 f_Part___eq__) := def_ok F_Part___eq__ sc_Part___eq__ fx_Part___eq__ (by decide) rfl (fun e => by cases e) rfl rfl (bok_Part___eq__ T 2)
  have eq_Part : ∀ n, 3 ≤ n → EqF PP w K mg base cfg.F T n cfg.insN "Part" f_Part___eq__ := fun n hn => eqB_ok x2 F_Part___eq__ (FnM.mono ok_Part___eq__ hn) rfl (F_Part___eq__.bindsN fun _ _ _ _ _ _ us hl => match us, hl with | [_, _], _ => rfl)
  have fx_is_row : Fx (tb_is_row T) 4 PP w K mg base := B.fx rfl (all_cons (eq_Part _ (by decide)) all_nil) (all_cons (ca_is_integer_1 _ _ (by decide) (fun e => by cases e)) all_nil) all_nil all_nil
  have ok_is_row : FnM false PP w K mg base 5 (He.ga K "is_row") d_is_row P_is_row (spM K cfg.F T 2 f_is_row) := def_ok F_is_row sc_is_row fx_is_row (by decide) rfl (fun e => by cases e) rfl rfl (bok_is_row T 4)
  have ca_is_row_2 : ∀ gd k, 5 ≤ k → (false = true → gd = true) → CallF PP w K mg base cfg.F T gd k ⟨"is_row", 2, [], (ordM [0, 1] [] f_is_row)⟩ := fun gd k hk hg => call_def F_is_row (B.gl _ (by decide +kernel)) ok_is_row hg hk (fun _ _ _ _ _ _ us ws hu hw => match us, ws, hu, hw with | [_, _], [], _, _ => rfl) (fun l hl => match l, hl with | [_, _], _ => rfl)
  have fx_is_counts : Fx (tb_is_counts T) 5 PP w K mg base := B.fx rfl all_nil (all_cons (ca_is_row_2 _ _ (by decide) (fun e => by cases e)) all_nil) all_nil all_nil
  have ok_is_counts : FnM false PP w K mg base 6 (He.ga K "is_counts") d_is_counts P_is_counts (spM K cfg.F T 2 f_is_counts) := def_ok F_is_counts sc_is_counts fx_is_counts (by decide) rfl (fun e => by cases e) rfl rfl (bok_is_counts T 5)
  have ca_is_counts_2 : ∀ gd k, 6 ≤ k → (false = true → gd = true) → CallF PP w K mg base cfg.F T gd k ⟨"is_counts", 2, [], (ordM [0, 1] [] f_is_counts)⟩ := fun gd k hk hg => call_def F_is_counts (B.gl _ (by decide +kernel)) ok_is_counts hg hk (fun _ _ _ _ _ _ us ws hu hw => match us, ws, hu, hw with | [_, _], [], _, _ => rfl) (fun l hl => match l, hl with | [_, _], _ => rfl)
  have fx_is_pass : Fx (tb_is_pass T) 6 PP w K mg base := B.fx rfl (all_cons (eq_Part _ (by decide)) all_nil) (all_cons (ca_is_integer_1 _ _ (by decide) (fun e => by cases e)) (all_cons (ca_is_counts_2 _ _ (by decide) (fun e => by cases e)) all_nil)) all_nil all_nil
  have ok_is_pass : FnM false PP w K mg base 7 (He.ga K "is_pass") d_is_pass P_is_pass (spM K cfg.F T 3 f_is_pass) := def_ok F_is_pass sc_is_pass fx_is_pass (by decide) rfl (fun e => by cases e) rfl rfl (bok_is_pass T 6)
  have ca_is_pass_3 : ∀ gd k, 7 ≤ k → (false = true → gd = true) → CallF PP w K mg base cfg.F T gd k ⟨"is_pass", 3, [], (ordM [0, 1, 2] [] f_is_pass)⟩ := fun gd k hk hg => call_def F_is_pass (B.gl _ (by decide +kernel)) ok_is_pass hg hk (fun _ _ _ _ _ _ us ws hu hw => match us, ws, hu, hw with | [_, _, _], [], _, _ => rfl) (fun l hl => match l, hl with | [_, _, _], _ => rfl)
  have fx_need_rows : Fx (tb_need_rows T) 7 PP w K mg base := B.fx rfl (all_cons (eq_Part _ (by decide)) all_nil) (all_cons (ca_is_pass_3 _ _ (by decide) (fun e => by cases e)) all_nil) (all_cons ⟨XC_BadPart, rfl⟩ all_nil) all_nil
  have ok_need_rows : FnM false PP w K mg base 8 (He.ga K "need_rows") d_need_rows P_need_rows (spM K cfg.F T 3 f_need_rows) := def_ok F_need_rows sc_need_rows fx_need_rows (by decide) rfl (fun e => by cases e) rfl rfl (bok_need_rows T 7)
  have ca_need_rows_3 : ∀ gd k, 8 ≤ k → (false = true → gd = true) → CallF PP w K mg base cfg.F T gd k ⟨"need_rows", 3, [], (ordM [0, 1, 2] [] f_need_rows)⟩ := fun gd k hk hg => call_def F_need_rows (B.gl _ (by decide +kernel)) ok_need_rows hg hk (fun _ _ _ _ _ _ us ws hu hw => match us, ws, hu, hw with | [_, _, _], [], _, _ => rfl) (fun l hl => match l, hl with | [_, _, _], _ => rfl)
  have fx_Part___init__ : Fx (tb_Part___init__ T) 8 PP w K mg base := B.fx rfl all_nil (all_cons (ca_need_integer_4 _ _ (by decide) (fun e => by cases e)) (all_cons (ca_need_rows_3 _ _ (by decide) (fun e => by cases e)) all_nil)) all_nil all_nil
  have ok_Part___init__ : FnM false PP w K mg base 9 (He.ma K (He.ga K "Part") "__init__") d_Part___init__ P_Part___init__ (spM K cfg.F T 4 f_Part___init__) := def_ok F_Part___init__ sc_Part___init__ fx_Part___init__ (by decide) rfl (fun e => by cases e) rfl rfl (bok_Part___init__ T 8)
  have ca_Part_3 : ∀ gd k, 10 ≤ k → (false = true → gd = true) → CallF PP w K mg base cfg.F T gd k ⟨"Part", 3, [], mk_Part_3⟩ := fun gd k hk _ => call_cls F_Part___init__ (B.gl _ (by decide +kernel)) (mkB_ok x1) ok_Part___init__ hk (fun _ _ _ _ _ _ us ws hu hw => match us, ws, hu, hw with | [_, _, _, _], [], _, _ => rfl) (fun l hl => match l, hl with | [_, _, _, _], _ => rfl)
  have ca_Part_0_rows_outs_doors : ∀ gd k, 10 ≤ k → (false = true → gd = true) → CallF PP w K mg base cfg.F T gd k ⟨"Part", 0, ["rows", "outs", "doors"], mk_Part_0_rows_outs_doors⟩ := fun gd k hk _ => call_cls F_Part___init__ (B.gl _ (by decide +kernel)) (mkB_ok x1) ok_Part___init__ hk (fun _ _ _ _ _ _ us ws hu hw => match us, ws, hu, hw with | [_], [_, _, _], _, _ => rfl) (fun l hl => match l, hl with | [_, _, _, _], _ => rfl)
  have fx__law_pen : Fx (tb__law_pen T) 2 PP w K mg base := B.fx rfl all_nil all_nil all_nil all_nil
  have ok__law_pen : FnM true PP w K mg base 3 (He.ga K "_law_pen") d__law_pen P__law_pen (spM K cfg.F T 1 f__law_pen) := def_ok F__law_pen sc__law_pen fx__law_pen (by decide) rfl (fun e => by cases e) rfl rfl (bok__law_pen T 2)
  have ca__law_pen_1 : ∀ gd k, 3 ≤ k → (true = true → gd = true) → CallF PP w K mg base cfg.F T gd k ⟨"_law_pen", 1, [], (ordM [0] [] f__law_pen)⟩ := fun gd k hk hg => call_def F__law_pen (B.gl _ (by decide +kernel)) ok__law_pen hg hk (fun _ _ _ _ _ _ us ws hu hw => match us, ws, hu, hw with | [_], [], _, _ => rfl) (fun l hl => match l, hl with | [_], _ => rfl)
  have fx__law_draw : Fx (tb__law_draw T) 4 PP w K mg base := B.fx rfl (all_cons (eq_Part _ (by decide)) all_nil) all_nil all_nil all_nil
  have ok__law_draw : FnM true PP w K mg base 5 (He.ga K "_law_draw") d__law_draw P__law_draw (spM K cfg.F T 2 f__law_draw) := def_ok F__law_draw sc__law_draw fx__law_draw (by decide) rfl (fun e => by cases e) rfl rfl (bok__law_draw T 4)
  have ca__law_draw_2 : ∀ gd k, 5 ≤ k → (true = true → gd = true) → CallF PP w K mg base cfg.F T gd k ⟨"_law_draw", 2, [], (ordM [0, 1] [] f__law_draw)⟩ := fun gd k hk hg => call_def F__law_draw (B.gl _ (by decide +kernel)) ok__law_draw hg hk (fun _ _ _ _ _ _ us ws hu hw => match us, ws, hu, hw with | [_, _], [], _, _ => rfl) (fun l hl => match l, hl with | [_, _], _ => rfl)
  have fx__law_pick : Fx (tb__law_pick T) 5 PP w K mg base := B.fx rfl all_nil (all_cons (ca__law_draw_2 _ _ (by decide) (fun _ => rfl)) all_nil) all_nil all_nil
  have ok__law_pick : FnM true PP w K mg base 6 (He.ga K "_law_pick") d__law_pick P__law_pick (spM K cfg.F T 2 f__law_pick) := def_ok F__law_pick sc__law_pick fx__law_pick (by decide) rfl (fun e => by cases e) rfl rfl (bok__law_pick T 5)
  have ca__law_pick_2 : ∀ gd k, 6 ≤ k → (true = true → gd = true) → CallF PP w K mg base cfg.F T gd k ⟨"_law_pick", 2, [], (ordM [0, 1] [] f__law_pick)⟩ := fun gd k hk hg => call_def F__law_pick (B.gl _ (by decide +kernel)) ok__law_pick hg hk (fun _ _ _ _ _ _ us ws hu hw => match us, ws, hu, hw with | [_, _], [], _, _ => rfl) (fun l hl => match l, hl with | [_, _], _ => rfl)
  have fx__law_heard : Fx (tb__law_heard T) 4 PP w K mg base := B.fx rfl (all_cons (eq_Part _ (by decide)) all_nil) all_nil all_nil all_nil
  have hd__law_heard : ∀ k, 5 ≤ k → HeardF PP w K mg base cfg.F T true k ⟨"_law_heard", o__law_heard⟩ := fun k hk => HeardF.mono (heard_ok F__law_heard (B.gl _ (by decide +kernel)) sc__law_heard fx__law_heard (by decide) rfl (by decide +kernel) (fun _ _ _ _ _ _ us hl => match us, hl with | [_], _ => rfl) (fun O f θ => bok__law_heard T 4 O f θ) ho__law_heard) hk
  have fx__law_rows : Fx (tb__law_rows T) 6 PP w K mg base := B.fx rfl all_nil (all_cons (ca__law_pick_2 _ _ (by decide) (fun _ => rfl)) (all_cons (ca__law_draw_2 _ _ (by decide) (fun _ => rfl)) all_nil)) all_nil all_nil
  have ok__law_rows : FnM true PP w K mg base 7 (He.ga K "_law_rows") d__law_rows P__law_rows (spM K cfg.F T 4 f__law_rows) := def_ok F__law_rows sc__law_rows fx__law_rows (by decide) rfl (fun e => by cases e) rfl rfl (bok__law_rows T 6)
  have ca__law_rows_4 : ∀ gd k, 7 ≤ k → (true = true → gd = true) → CallF PP w K mg base cfg.F T gd k ⟨"_law_rows", 4, [], (ordM [0, 1, 2, 3] [] f__law_rows)⟩ := fun gd k hk hg => call_def F__law_rows (B.gl _ (by decide +kernel)) ok__law_rows hg hk (fun _ _ _ _ _ _ us ws hu hw => match us, ws, hu, hw with | [_, _, _, _], [], _, _ => rfl) (fun l hl => match l, hl with | [_, _, _, _], _ => rfl)
  have fx__law_tupled : Fx (tb__law_tupled T) 2 PP w K mg base := B.fx rfl all_nil all_nil all_nil all_nil
  have ok__law_tupled : FnM true PP w K mg base 3 (He.ga K "_law_tupled") d__law_tupled P__law_tupled (spM K cfg.F T 1 f__law_tupled) := def_ok F__law_tupled sc__law_tupled fx__law_tupled (by decide) rfl (fun e => by cases e) rfl rfl (bok__law_tupled T 2)
  have ca__law_tupled_1 : ∀ gd k, 3 ≤ k → (true = true → gd = true) → CallF PP w K mg base cfg.F T gd k ⟨"_law_tupled", 1, [], (ordM [0] [] f__law_tupled)⟩ := fun gd k hk hg => call_def F__law_tupled (B.gl _ (by decide +kernel)) ok__law_tupled hg hk (fun _ _ _ _ _ _ us ws hu hw => match us, ws, hu, hw with | [_], [], _, _ => rfl) (fun l hl => match l, hl with | [_], _ => rfl)
  have fx__law_copy : Fx (tb__law_copy T) 2 PP w K mg base := B.fx rfl all_nil all_nil all_nil all_nil
  have ok__law_copy : FnM true PP w K mg base 3 (He.ga K "_law_copy") d__law_copy P__law_copy (spM K cfg.F T 1 f__law_copy) := def_ok F__law_copy sc__law_copy fx__law_copy (by decide) rfl (fun e => by cases e) rfl rfl (bok__law_copy T 2)
  have ca__law_copy_1 : ∀ gd k, 3 ≤ k → (true = true → gd = true) → CallF PP w K mg base cfg.F T gd k ⟨"_law_copy", 1, [], (ordM [0] [] f__law_copy)⟩ := fun gd k hk hg => call_def F__law_copy (B.gl _ (by decide +kernel)) ok__law_copy hg hk (fun _ _ _ _ _ _ us ws hu hw => match us, ws, hu, hw with | [_], [], _, _ => rfl) (fun l hl => match l, hl with | [_], _ => rfl)
  have fx__law_wrong : Fx (tb__law_wrong T) 6 PP w K mg base := B.fx rfl (all_cons (eq_Part _ (by decide)) all_nil) (all_cons (ca__law_draw_2 _ _ (by decide) (fun _ => rfl)) (all_cons (ca__law_copy_1 _ _ (by decide) (fun _ => rfl)) (all_cons (ca__law_pick_2 _ _ (by decide) (fun _ => rfl)) all_nil))) all_nil all_nil
  have ok__law_wrong : FnM true PP w K mg base 7 (He.ga K "_law_wrong") d__law_wrong P__law_wrong (spM K cfg.F T 4 f__law_wrong) := def_ok F__law_wrong sc__law_wrong fx__law_wrong (by decide) rfl (fun e => by cases e) rfl rfl (bok__law_wrong T 6)
  have ca__law_wrong_4 : ∀ gd k, 7 ≤ k → (true = true → gd = true) → CallF PP w K mg base cfg.F T gd k ⟨"_law_wrong", 4, [], (ordM [0, 1, 2, 3] [] f__law_wrong)⟩ := fun gd k hk hg => call_def F__law_wrong (B.gl _ (by decide +kernel)) ok__law_wrong hg hk (fun _ _ _ _ _ _ us ws hu hw => match us, ws, hu, hw with | [_, _, _, _], [], _, _ => rfl) (fun l hl => match l, hl with | [_, _, _, _], _ => rfl)
  have fx__law_refused : Fx (tb__law_refused T) 12 PP w K mg base := B.fx rfl (all_cons (eq_Part _ (by decide)) all_nil) (all_cons (ca__law_wrong_4 _ _ (by decide) (fun _ => rfl)) (all_cons (ca__law_pick_2 _ _ (by decide) (fun _ => rfl)) (all_cons (ca_Part_3 _ _ (by decide) (fun e => by cases e)) (all_cons (ca_Part_0_rows_outs_doors _ _ (by decide) (fun e => by cases e)) all_nil)))) all_nil (all_cons (hd__law_heard _ (by decide)) all_nil)
  have fl__law_refused : Fx { tb__law_refused T with thk := none, lam := false } 10 PP w K mg base := B.fx rfl (all_cons (eq_Part _ (by decide)) all_nil) (all_cons (ca__law_wrong_4 _ _ (by decide) (fun _ => rfl)) (all_cons (ca__law_pick_2 _ _ (by decide) (fun _ => rfl)) (all_cons (ca_Part_3 _ _ (by decide) (fun e => by cases e)) (all_cons (ca_Part_0_rows_outs_doors _ _ (by decide) (fun e => by cases e)) all_nil)))) all_nil (all_cons (hd__law_heard _ (by decide)) all_nil)
  have ok__law_refused : FnM true PP w K mg base 13 (He.ga K "_law_refused") d__law_refused P__law_refused (spM K cfg.F T 4 f__law_refused) := def_ok F__law_refused sc__law_refused fx__law_refused (by decide) rfl (fun _ => lamF_of F__law_refused (by decide +kernel) x5 rfl hTB (by decide) fl__law_refused) rfl rfl (bok__law_refused T 12)
  have ca__law_refused_4 : ∀ gd k, 13 ≤ k → (true = true → gd = true) → CallF PP w K mg base cfg.F T gd k ⟨"_law_refused", 4, [], (ordM [0, 1, 2, 3] [] f__law_refused)⟩ := fun gd k hk hg => call_def F__law_refused (B.gl _ (by decide +kernel)) ok__law_refused hg hk (fun _ _ _ _ _ _ us ws hu hw => match us, ws, hu, hw with | [_, _, _, _], [], _, _ => rfl) (fun l hl => match l, hl with | [_, _, _, _], _ => rfl)
  have fx__law_other : Fx (tb__law_other T) 10 PP w K mg base := B.fx rfl all_nil (all_cons (ca__law_draw_2 _ _ (by decide) (fun _ => rfl)) (all_cons (ca__law_copy_1 _ _ (by decide) (fun _ => rfl)) (all_cons (ca_Part_3 _ _ (by decide) (fun e => by cases e)) all_nil))) all_nil all_nil
  have ok__law_other : FnM true PP w K mg base 11 (He.ga K "_law_other") d__law_other P__law_other (spM K cfg.F T 4 f__law_other) := def_ok F__law_other sc__law_other fx__law_other (by decide) rfl (fun e => by cases e) rfl rfl (bok__law_other T 10)
  have ca__law_other_4 : ∀ gd k, 11 ≤ k → (true = true → gd = true) → CallF PP w K mg base cfg.F T gd k ⟨"_law_other", 4, [], (ordM [0, 1, 2, 3] [] f__law_other)⟩ := fun gd k hk hg => call_def F__law_other (B.gl _ (by decide +kernel)) ok__law_other hg hk (fun _ _ _ _ _ _ us ws hu hw => match us, ws, hu, hw with | [_, _, _, _], [], _, _ => rfl) (fun l hl => match l, hl with | [_, _, _, _], _ => rfl)
  have fx_law : Fx (tb_law T) 15 PP w K mg base := B.fx rfl (all_cons (eq_Part _ (by decide)) all_nil) (all_cons (ca__law_pen_1 _ _ (by decide) (fun _ => rfl)) (all_cons (ca__law_pick_2 _ _ (by decide) (fun _ => rfl)) (all_cons (ca__law_draw_2 _ _ (by decide) (fun _ => rfl)) (all_cons (ca__law_rows_4 _ _ (by decide) (fun _ => rfl)) (all_cons (ca__law_copy_1 _ _ (by decide) (fun _ => rfl)) (all_cons (ca__law_tupled_1 _ _ (by decide) (fun _ => rfl)) (all_cons (ca_Part_3 _ _ (by decide) (fun e => by cases e)) (all_cons (ca_Part_0_rows_outs_doors _ _ (by decide) (fun e => by cases e)) (all_cons (ca__law_other_4 _ _ (by decide) (fun _ => rfl)) (all_cons (ca__law_refused_4 _ _ (by decide) (fun _ => rfl)) all_nil)))))))))) all_nil (all_cons (hd__law_heard _ (by decide)) all_nil)
  have fl_law : Fx { tb_law T with thk := none, lam := false } 13 PP w K mg base := B.fx rfl (all_cons (eq_Part _ (by decide)) all_nil) (all_cons (ca__law_pen_1 _ _ (by decide) (fun _ => rfl)) (all_cons (ca__law_pick_2 _ _ (by decide) (fun _ => rfl)) (all_cons (ca__law_draw_2 _ _ (by decide) (fun _ => rfl)) (all_cons (ca__law_rows_4 _ _ (by decide) (fun _ => rfl)) (all_cons (ca__law_copy_1 _ _ (by decide) (fun _ => rfl)) (all_cons (ca__law_tupled_1 _ _ (by decide) (fun _ => rfl)) (all_cons (ca_Part_3 _ _ (by decide) (fun e => by cases e)) (all_cons (ca_Part_0_rows_outs_doors _ _ (by decide) (fun e => by cases e)) (all_cons (ca__law_other_4 _ _ (by decide) (fun _ => rfl)) (all_cons (ca__law_refused_4 _ _ (by decide) (fun _ => rfl)) all_nil)))))))))) all_nil (all_cons (hd__law_heard _ (by decide)) all_nil)
  have ok_law : FnM true PP w K mg base 16 (He.ga K "law") d_law P_law (spM K cfg.F T 1 f_law) := def_ok F_law sc_law fx_law (by decide) rfl (fun _ => lamF_of F_law (by decide +kernel) x5 rfl hTB (by decide) fl_law) rfl rfl (bok_law T 15)
  exact ok_law
end K03

set_option Elab.async false
set_option linter.all false
set_option maxRecDepth 100000
set_option maxHeartbeats 8000000
open PySem PySem.W PySem.Calls PyProof.Rows
theorem PySem.Challenge.cw_countsalone_k03_parts_made_and_refused_holds : PySem.Challenge.rw_countsalone_k03_parts_made_and_refused.Holds := by
  w_on; o_law
  refine HandSHeadRun.head_any (r := OpenLaw.row PySem.Challenge.rw_countsalone_k03_parts_made_and_refused) (q := K03.qv) (H := K03.hk) (ob := K03.ob) (M := 8000) (loose := K03.loose) (d := HandSHeadRun.topDef (OpenLaw.row PySem.Challenge.rw_countsalone_k03_parts_made_and_refused).prog 28) (kwd := []) K03.ob_eq
    (by kernel_rfl) (fun s => by kernel_rfl) K03.run (by kernel_rfl) (by kernel_rfl) (by kernel_rfl) (by rfl) (by first | assumption | decide +kernel) (by decide +kernel) ⟨rfl, rfl, rfl, rfl, rfl, by decide +kernel⟩ ?hw ?hc
  case hw => w_witness2
  case hc =>
    refine DL.walk_ofG (l := PySem.Challenge.rw_countsalone_k03_parts_made_and_refused) (n := 63) (k := 16) (x := "script") (CX := fun w => L2.CX PySem.Challenge.rw_countsalone_k03_parts_made_and_refused.prog w) rfl (by decide) (by kernel_rfl) ⟨rfl, by decide, by decide⟩ ?F (fun _ H s e s' z => M.cx_none H s e s' z)
    intro w mg fa h Y G hmg0
    obtain ⟨K, KX, c⟩ := Y
    have hmg : mg ("law" : PySem.Str) = some (.ref fa) := by
      have e : (HandSHeadRun.topDef (OpenLaw.row PySem.Challenge.rw_countsalone_k03_parts_made_and_refused).prog 28).name = ("law" : PySem.Str) := by kernel_rfl
      rw [← e]
      exact hmg0
    exact ⟨K, KX, K03.facts KX G hmg c K03.plain⟩
