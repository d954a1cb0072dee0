import PyProof.Rows.All
import HandS.ForMost
import HandS.ForExc
import HandS.IsInst
import HandS.ExcInit
import HandS.ExcField
import HandS.ExcIs
import KE.KExcIs
import HandS.Lambda
import HandS.Wide
import HandS.Gcd
import HandS.Defaults
import HandS.Style
import HandS.RaiseMore
import HandS.Evl
import HandS.Conv
import HandS.HeadHook2
import HandS.Steps
import HandS.HeadHook4
import HandS.HeadWalk
import PySem.Challenge.RW_countsalone_k01_fractions_of_any_size
import HandS.Head0
import HandS.Head1
import HandS.Head2
import HandS.Head3
import HandS.HeadEnd
set_option Elab.async false
set_option linter.all false
set_option maxRecDepth 100000
set_option maxHeartbeats 4000000
/-! an own exception that was caught and is kept in a name behind the try: tracked as a known object -/
namespace DL
open PySem PySem.Spec PyProof.Rows L2
/-- the object at a: an exception of the class cls, its own dict d -/
def XcO (cls : Value) (d : Option Addr) (a : Addr) : HO := .ext fun h => ∃ oe : Obj, h.get? a = some oe ∧ Zc cls d oe ∧ ∃ vs, oe.data = .fields vs
theorem xcO_ok {P : Program} {w : World} {H : Hp} {h : Heap} {a : Addr} {cls : Value} {d : Option Addr} {oe : Obj} (e : h.get? a = some oe) (z : Zc cls d oe) (v : ∃ vs, oe.data = .fields vs) : ObjOk P w H h a (XcO cls d a) :=
  ⟨⟨oe, e, z, v⟩, ⟨oe, e⟩, fun _ _ ⟨o, q, r⟩ k => ⟨o, k o q, r⟩⟩
section
variable {X : Cx} {pins : List (Addr × Obj)} {σ : L2.St} {H : Hp} {s : Shared}
/-- an untracked object that is new since the entry is tracked from now on -/
theorem track {a : Addr} {oe : Obj} {cls : Value} {d : Option Addr} (I : Inv X pins σ H s) (ho : s.heap.get? a = some oe) (hz : Zc cls d oe) (hv : ∃ vs, oe.data = .fields vs) (na : H a = none)
    (nL : a ≠ X.env.locals) (n0 : X.s_0.heap.get? a = none) (np : ∀ p ∈ X.pn ++ pins, p.1 ≠ a) : Inv X pins σ (upd H a (XcO cls d a)) s := by
  have ne0 : ∀ b o, X.s_0.heap.get? b = some o → b ≠ a := fun b o e z => by
    rw [z, n0] at e
    cases e
  have neS : ∀ b u, H b = some u → b ≠ a := fun b u e => ne_of_none e na
  have cne : ∀ x c, X.env.cells.lookup x = some c → c ≠ a := fun x c e z => by
    obtain ⟨v, o, ho', hd'⟩ := I.cell x c e
    obtain ⟨vs, hvs⟩ := hv
    rw [z, ho] at ho'
    cases ho'
    rw [hvs] at hd'
    cases hd'
  refine ⟨I.ok, I.os, I.bare, ⟨I.base.keep, I.base.slot, fun b o e n hq => ?_, I.base.there, fun b xs e => ?_, fun b o u e => ?_, fun b ps e => ?_⟩, I.loc, I.cell, ?_, fun x c e => ?_, fun p hp => ?_, fun b u e => ?_, I.len⟩
  · rw [upd_ne (ne0 b o e)]
    exact I.base.free b o e n hq
  · have q := I.base.tups b xs e
    rw [upd_ne (neS b _ q)]
    exact q
  · have q := I.base.frzs b o u e
    rw [upd_ne (neS b _ q)]
    exact q
  · obtain ⟨m, q⟩ := I.base.tbls b ps e
    exact ⟨m, by rw [upd_ne (neS b _ q)]; exact q⟩
  · rw [upd_ne (Ne.symm nL)]
    exact I.free
  · rw [upd_ne (cne x c e)]
    exact I.freeC x c e
  · obtain ⟨e, n, ne, nf, dd⟩ := I.pin p hp
    exact ⟨e, by rw [upd_ne (np p hp)]; exact n, ne, nf, dd⟩
  · by_cases hb : b = a
    · subst hb
      rw [upd_same] at e
      cases e
      exact xcO_ok ho hz hv
    · rw [upd_ne hb] at e
      exact (I.hok b u e).stay (fun c v _ q => q) (fun c q => by rw [upd_ne (neS c _ q)]; exact q) fun c xs q => by rw [upd_ne (neS c _ q)]; exact q
/-- what the clause wishes of an exception of the body: the suite, and behind it the exception is known at its place -/
def wKeep (K : PySem.W.Frag) (c : Value) (i : Nat) (ts : Addr → Value → Option Addr → TS) (Wout : WX) (D : Ends) : WX := fun cls d σ H =>
  ∃ b, PySem.W.exmOne K cls c = some b ∧ (b = true → ∀ a, H a = none → ts a cls d { nx := fun σ' H' => H' a = none ∧ D.nx (σ'.set i none) (upd H' a (XcO cls d a)), rt := fun _ _ => False } (σ.set i (some (.ref a))) H) ∧
    (b = false → Wout cls d σ H)
end
section
variable {X : Cx} {x n : Str} {c : Value} {i : Nat} {body suite : List Stmt} {b₀ : Stmt} {np pos pos' : Pos} {tb : WX → TS} {ts : Addr → Value → Option Addr → TS} {Wout : WX}
theorem ps_try_keep (hs : X.stack = X.env :: X.outer) (hf : X.env.frame = some X.env.locals) (hN : X.N.Nodup) (hi : X.N[i]? = some n) (hln : X.env.kindOf n = some .local) (hc : Names X x c) (tk : Takes X Wout) (hex : X.ex = [])
    (hb : ∀ (W : WX) (pn : List (Addr × Obj)) (xe : Value → Shared → Prop), Takes (X.tr pn xe) W → PassesOwn (model X.prog X.w) X.A X.env xe → PSs (X.tr pn xe) body (tb W))
    (hsu : ∀ (a : Addr) (oe : Obj) (cls : Value) (d : Option Addr) (pn : List (Addr × Obj)), Zc cls d oe → (∃ vs, oe.data = .fields vs) → PSs (X.suite a ((a, oe) :: pn)) (b₀ :: suite) (ts a cls d)) :
    PS X (.Try body [.ExceptHandler (some (.Name x np)) (some n) (b₀ :: suite) pos'] [] [] pos) (fun D σ H => tb (wKeep X.K c i ts Wout D) D σ H) := by
  refine ⟨fun pins s σ H D I h => ?_⟩
  have ok := I.ok
  have hfr : X.A.frames = some (X.env :: X.outer) := by rw [ok.frames, hs]
  have hloc : Loc X.env.scope n := .inl hln
  refine wpAny_Try_except ?_
  refine wpAny_mono ((hb (wKeep X.K c i ts Wout D) (X.pn ++ pins) (fun e s₁ => wpAny (model X.prog X.w) X.A (noteFrame e X.env) (fun _ s₂ => wpAny (model X.prog X.w) X.A (setFlight e none) (fun _ s₃ =>
    wpAny (model X.prog X.w) X.A (handleBy e X.env [.ExceptHandler (some (.Name x np)) (some n) (b₀ :: suite) pos']) (SP X pins D) X.xe s₃) X.xe s₂) X.xe s₁) (fun u s' xx => ?_) PassesOwn.looking).run [] s σ H D (I.toTry _) h) (fun f s1 hsp => ?_) (fun e s1 he => he)
  · obtain ⟨a, B, sI, pins', σ', H', cls, d, rfl, J', nb, up, sky, na, os, ag, b, hb1, hyes, hno⟩ := xx
    have J : Inv X pins σ' H' sI := J'.ofTry ok
    have sky' : Sky B (X.env :: X.outer) a (Zc cls d) X.env.locals s'.heap := by rw [← hs]; exact sky
    have nB : B.get? a = none := by
      rcases sky' with z | z | z
      · exact z.2.1
      · exact z.2.1
      · exact z.2.1
    show wpAny (model X.prog X.w) X.A (noteFrame (.ref a) X.env) _ _ _
    refine Sky.land Zc.steady hfr hf sky' fun h3 fl3 up3 => ?_
    have J3 : Inv X pins σ' H' { s' with heap := h3 } := J.landed nb fl3.1 (up.trans up3) os ag
    obtain ⟨oe3, vs3, he3, hz3, hd3⟩ := fl3.there
    have notFr : ∀ {h : Heap} {o : Obj} {vs : Array Value}, h.FunFrames B (X.env :: X.outer) → h.get? a = some o → o.data = .fields vs → a ∉ frs (X.env :: X.outer) := fun {h o vs} ff e dd hm => by
      obtain ⟨_, o', e', hnf⟩ := ff.mem hm
      rw [e] at e'; cases e'
      exact hnf _ dd
    have nfr := notFr fl3.2.2.1 he3 hd3
    have nL : a ≠ X.env.locals := fun z => nfr (List.mem_filterMap.mpr ⟨X.env, List.mem_cons_self, by rw [hf, z]⟩)
    have nF : a ∉ X.fs := fun hm => by
      obtain ⟨e, he, q⟩ := List.mem_filterMap.mp hm
      exact nfr (List.mem_filterMap.mpr ⟨e, List.mem_cons_of_mem _ he, q⟩)
    have nI : sI.heap.get? a = none := by
      cases e : sI.heap.get? a with
      | none => rfl
      | some o =>
        have z := nb a o e (by rw [hs]; exact nfr)
        rw [nB] at z
        cases z
    have n0 : X.s_0.heap.get? a = none := by
      cases e : X.s_0.heap.get? a with
      | none => rfl
      | some o =>
        obtain ⟨o', z⟩ := J.base.there a o e (by rw [hex]; exact fun z => nomatch z)
        rw [nI] at z
        cases z
    have np' : ∀ p ∈ X.pn ++ pins, p.1 ≠ a := fun p hp z => by
      have q := (J.pin p hp).1
      rw [z, nI] at q
      cases q
    have S3 := J3.suite he3 hd3 na nL nF
    refine wpAny_handleBy_cons (codeAny_handlers_test ?_) (by intro q; cases q)
    have LT : PySem.W.Looks (model X.prog X.w) h3 (typeOf (.ref a)) cls := fun A Q E s k q => wpAny_typeOf_ref (k _ _ he3) (by rw [hz3.1]; exact q)
    have LM := PySem.W.exm_one (M := model X.prog X.w) (J3.kIn) LT hb1
    have test : ∀ {Q : Value → Shared → Prop} {E : Value → Shared → Prop}, Q c { s' with heap := h3 } → wpAny (model X.prog X.w) (X.A.mark (some (.ref a))) (eval (.Name x np) X.env) Q E { s' with heap := h3 } := fun {Q E} q => by
      obtain ⟨hg, hdbg, hm | ⟨hm, hv, hnn⟩⟩ := hc
      · exact ld_glob (X := X.suite a ((a, oe3) :: (X.pn ++ pins))) S3 hg hm q hdbg
      · exact ld_blt (X := X.suite a ((a, oe3) :: (X.pn ++ pins))) S3 hg hm hv q hnn hdbg
    refine test (LM.here ?_)
    cases b with
    | true =>
      refine codeAny_handlers_suite_as ?_
      refine HandSPX.lands_againZ fl3 fun h4 fl4 up4 => ?_
      have J4 : Inv X pins σ' H' { s' with heap := h4 } := J.landed nb fl4.1 ((up.trans up3).trans up4) os ag
      obtain ⟨oe4, vs4, he4, hz4, hd4⟩ := fl4.there
      have S4 := J4.suite he4 hd4 na nL nF
      refine store_ok (X := X.suite a ((a, oe4) :: (X.pn ++ pins))) (v := .ref a) S4 hN hi hloc rfl (fun s5 S5 => ?_) (.inr hln)
      refine wpAny_mono ((hsu a oe4 cls d (X.pn ++ pins) hz4 ⟨_, hd4⟩).run [] s5 _ H' _ S5 (hyes rfl a na)) (fun f s6 hsp => ?_) (fun _ _ z => False.elim z)
      cases f with
      | next =>
        obtain ⟨σ6, H6, S6, n6, q6⟩ := hsp
        refine gone_ok (X := X.suite a ((a, oe4) :: (X.pn ++ pins))) S6 hN hi hln fun s7 S7 => ?_
        have g7 : s7.heap.get? a = some oe4 := (S7.pin (a, oe4) (List.mem_append_left _ List.mem_cons_self)).1
        exact ⟨_, _, track (S7.unsuite ok) g7 hz4 ⟨_, hd4⟩ n6 nL n0 np', q6⟩
      | brk =>
        obtain ⟨σ6, H6, S6, q6⟩ := hsp
        exact False.elim q6
      | cont =>
        obtain ⟨σ6, H6, S6, q6⟩ := hsp
        exact False.elim q6
      | ret u =>
        obtain ⟨v6, σ6, H6, S6, r6, q6⟩ := hsp
        exact False.elim q6
    | false =>
      show wpAny _ X.A (handleBy (.ref a) X.env []) _ _ _
      refine wpAny_handleBy_nil ?_
      obtain ⟨k1, k2, k3, oe, vs, T, oT, ts', he, hz, hd, h1, hr⟩ := id fl3
      unfold PySem.passOn
      refine wpAny_bind (wpAny_field he hd h1 ?_)
      rw [if_neg (show ¬ ((Value.ref T == Value.none) = true) from by simp)]
      have fin : wpAny (model X.prog X.w) X.A (setFlight (.ref a) X.env.frame) (fun _ s4 => wpAny (model X.prog X.w) X.A (throw (.ref a) : Sem Flow) (SP X pins D) X.xe s4) X.xe { s' with heap := h3 } := by
        rw [hf]
        refine HandSPX.setFlight_upZ fl3 fun h4 hh4 up4 => wpAny_throw (tk _ _ ?_)
        exact ⟨a, B, sI, pins, σ', H', cls, d, rfl, J, nb, (up.trans up3).trans up4, .inr (.inr (by rw [hs]; exact hh4)), na, os, ag, hno rfl⟩
      first
        | exact wpAny_bind (wpAny_pure (wpAny_bind fin))
        | exact wpAny_bind fin
  · cases f with
    | next =>
      obtain ⟨σ', H', J', q⟩ := hsp
      exact wpAny_execs_nil ⟨σ', H', J'.ofTry ok, q⟩
    | brk =>
      obtain ⟨σ', H', J', q⟩ := hsp
      exact ⟨σ', H', J'.ofTry ok, q⟩
    | cont =>
      obtain ⟨σ', H', J', q⟩ := hsp
      exact ⟨σ', H', J'.ofTry ok, q⟩
    | ret u =>
      obtain ⟨v, σ', H', J', r, q⟩ := hsp
      exact ⟨v, σ', H', J'.ofTry ok, r, q⟩
end
/-- what a class must say, so that isinstance may ask its kept exceptions, and their fields be read -/
structure XcC (K : PySem.W.Frag) (D : Addr) : Prop where
  hcl : (PySem.W.clsIn K D).isSome = true
  ga : PySem.W.findIn K (.ref D) "__getattribute__" = some (some (.builtin "BaseException.__getattribute__"))
  gg : PySem.W.findIn K (.ref D) "__getattr__" = some none
  exC : PySem.W.subIn K (.ref D) (.type "BaseException") = some true
  hdC : PySem.W.hasDictIn K D = true
  ha : PySem.W.findIn K (.ref D) "__class__" = some (some (.builtin "object.__class__"))
  hn : PySem.W.specialIn K (.builtin "object.__class__") "__get__" = some (some (.builtin "getset_descriptor.__get__"))
  ht : PySem.W.takesIn K (.builtin "object.__class__") = some true
  hm : PySem.W.mroIn K D (.type "object") = some true
section
variable {X : Cx}
theorem xc_inst {pins : List (Addr × Obj)} {σ : L2.St} {H : Hp} {s : Shared} {a D dd : Addr} {fs : List (Str × V)} (I : Inv X pins σ H s) (ha : H a = some (XcO (.ref D) (some dd) a)) (hd : H dd = some (.xd fs)) :
    ∃ oe od, PySem.W.InstAt s.heap a oe D (some od) ∧ (∃ mA : Str → Option Value, (∀ name, PySem.W.lookIn name od = some (mA name)) ∧ ∀ f, RelO (fs.lookup f) (mA f)) := by
  obtain ⟨⟨oe, e, hz, vs, hvs⟩, _, _⟩ := (show ObjOk X.prog X.w H s.heap a (XcO (.ref D) (some dd) a) from I.hok a _ ha)
  have hx : ObjOk X.prog X.w H s.heap dd (.xd fs) := I.hok dd _ hd
  obtain ⟨mA, hns, hr⟩ := hx
  obtain ⟨od, ho, hl⟩ := lookIn_ns hns
  exact ⟨oe, od, ⟨e, hz.1, by unfold PySem.W.notCls; rw [hvs] <;> rfl, by rw [hz.2]; exact ho⟩, mA, hl, hr⟩
/-- isinstance(e, c), e a kept exception -/
def rIsX (K : PySem.W.Frag) : List V → Hp → VK → Prop := fun xs H Q => ∃ (a D dd : Addr) (fs : List (Str × V)) (c : V) (cv : Value) (b : Bool), xs = [.ref a, c] ∧ H a = some (XcO (.ref D) (some dd) a) ∧ H dd = some (.xd fs) ∧ XcC K D ∧ ClsV c cv ∧ PySem.W.kitOne K (.ref D) cv = some b ∧ Q (.bl b) H
theorem call_isX : CallR X (.builtin "isinstance") (rIsX X.K) := by
  intro pins s σ H xs us Q I r h
  obtain ⟨a, D, dd, fs, c, cv, b, rfl, ha, hd, T, k, e, q⟩ := h
  obtain ⟨u1, u2, rfl, r1, r2⟩ := vals2 r
  have e2 := k.eq r2
  subst e2
  cases (show u1 = Value.ref a from r1)
  obtain ⟨oe, od, J, _⟩ := xc_inst I ha hd
  exact PySem.W.kia_one (PySem.W.kitx_exc T.hcl T.ga T.gg T.exC T.ha T.hn T.ht T.hm) I.kIn J e (fun z => nomatch z) fun tk => ⟨.bl b, H, I.tok tk, rfl, q⟩
/-- e.f, e a kept exception -/
def tXcF (K : PySem.W.Frag) (te : TE) (f : Str) : TE := fun σ H Q => te σ H fun x H1 => ∃ (a D dd : Addr) (fs : List (Str × V)) (v : V), x = .ref a ∧ H1 a = some (XcO (.ref D) (some dd) a) ∧ H1 dd = some (.xd fs) ∧ XcC K D ∧
  PySem.W.findIn K (.ref D) f = some none ∧ fs.lookup f = some v ∧ Q v H1
theorem pe_xcf {e : Expr} {te : TE} {pos : Pos} {n : Str} (he : PE X e te) (hb : attributeBase e n X.env (eval e X.env) = eval e X.env := by rfl) : PE X (.Attribute e n pos) (tXcF X.K te n) := by
  refine ⟨fun pins s σ H Q I h => ?_⟩
  refine attr_of hb (thn (he.run pins s σ H _ I h) fun u s1 hh => ?_)
  obtain ⟨x, H1, I1, rx, a, D, dd, fs, v, ex, ha, hd, T, hno, l, q⟩ := hh
  subst ex
  obtain rfl : u = Value.ref a := rx
  obtain ⟨oe, od, J, mA, hl, hr⟩ := xc_inst I1 ha hd
  obtain ⟨u, hu, ru⟩ := RelO.some_of (v := v) (o := mA n) (by rw [← l]; exact hr n)
  exact HandSPX.exc_get I1.kIn J T.ga T.gg T.exC (PySem.W.findObj_own T.hdC hno rfl (by rw [hl, hu])) (handed_of ru) ⟨v, H1, I1.tok _, ru, q⟩
end
end DL

set_option Elab.async false
set_option linter.all false
set_option maxRecDepth 100000
set_option maxHeartbeats 4000000
/-! a lambda with one parameter that has a whole number for its default, handed to a def that calls it without arguments -/
namespace DL
open PySem PySem.Spec PySem.Calls PyProof.Rows L2 LamX
open PySem.W (tabObj)
abbrev fnD (qual : Str) (params : Arguments) (body : Expr) (scope : Scope) (cl : List (Str × Addr)) (dV pm cdv ct : Value) : FuncData :=
  { name := "<lambda>", qualname := qual, params, body := .expr body, scope, globals := mainGlobals, closure := cl, defaults := dV, kwdefaults := .none, doc := .none, pyModule := pm, annotations := none, code := cdv, closureTuple := ct, builtins := builtinsNs }
abbrev objD (qual : Str) (params : Arguments) (body : Expr) (scope : Scope) (cl : List (Str × Addr)) (dV pm : Value) (c' : Addr) (ctv : Value) : Obj :=
  { cls := .type "function", data := .func (fnD qual params body scope cl dV pm (.ref c') ctv) }
abbrev tupD (i : Int) (t : Tok) : Obj := { cls := .type "tuple", data := .seq #[.int i t] }
section
variable {M : Model} {A : Around} {E : Value → Shared → Prop} {s : Shared} {qual : Str} {params : Arguments} {body : Expr} {scope : Scope} {env : Env} {c P : Addr} {ps : Array Value} {pos : Pos} {firstLine : Nat} {mg : Str → Option Value}
  {clos : List (Str × Addr)} {Q : Value → Shared → Prop} {dV : Value}
theorem tailD (hcl : closureFor scope env = pure clos) (hge0 : env.globals = mainGlobals) (hg : s.heap.Ns mainGlobals mg) (hcode : env.code = .ref c) (C : PySem.W.CodeHd s.heap c P) (hP : s.heap.get? P = some (tabObj ps)) (ht : TriplesOk ps.toList)
    (hnf : codeAmong pos ps.toList = none) (hgP : mainGlobals ≠ P) (hb : s.heap.BuiltinsAt mg P)
    (h : ∀ c' ctv h' tk, Heap.ExtBut P s.heap h' → s.heap.objs.size ≤ c' → c' < h'.objs.size → h'.CodeRec (.ref c') qual → h'.get? P = some (tabObj (ps ++ #[rawInt pos.line, rawInt pos.col, .ref c'])) →
      Q (.ref h'.objs.size) { s with heap := h'.push (objD qual params body scope clos dV ((mg "__name__").getD .none) c' ctv), toks := tk }) :
    wpAny M A (makeTail "<lambda>" qual params (.expr body) scope env dV .none none pos firstLine) Q E s := by
  obtain ⟨bm, ob, hbm, hne0, _, hneP, hbo, hcls, hdict, hdata⟩ := hb
  unfold makeTail
  rw [hcl, hge0]
  refine wpAny_bind (wpAny_pure ?_)
  cases clos with
  | nil =>
    simp only [List.isEmpty_nil, if_true]
    refine wpAny_bind (wpAny_pure ?_)
    refine wpAny_bind (wpAny_functionCodeX hcode (C.code hP ht) (C.tab hP) hnf fun c' h' tk hx hge hlt _ hrec htb _ => ?_)
    have hg' := hg.extBut hx hgP
    refine wpAny_bind (wpAny_builtinsFor hg' hbm hne0 (hx _ _ hneP hbo) hcls hdict hdata ?_)
    refine wpAny_bind (wpAny_nsGet hg' ?_)
    exact wpAny_bind (wpAny_pure (wpAny_newObj_type (h c' .none h' tk hx hge hlt hrec htb.2) (by size_fits)))
  | cons q r =>
    simp only [List.isEmpty_cons, Bool.false_eq_true, if_false]
    refine wpAny_bind (wpAny_newTextTuple ?_)
    refine wpAny_bind (wpAny_functionCodeX hcode ((C.keeps fun b o e => Heap.get?_push_of_some _ e).code (Heap.get?_push_of_some _ hP) ht) ((C.keeps fun b o e => Heap.get?_push_of_some _ e).tab (Heap.get?_push_of_some _ hP)) hnf fun c' h' tk hx hge hlt _ hrec htb _ => ?_)
    have hg' := (hg.push _).extBut hx hgP
    have hx' : Heap.ExtBut P s.heap h' := fun b o hb' e => hx b o hb' (Heap.get?_push_of_some _ e)
    have hge' : s.heap.objs.size ≤ c' := Nat.le_trans (by rw [Heap.size_push]; omega) hge
    refine wpAny_bind (wpAny_builtinsFor hg' hbm hne0 (hx' _ _ hneP hbo) hcls hdict hdata ?_)
    refine wpAny_bind (wpAny_nsGet hg' ?_)
    exact wpAny_bind (wpAny_pure (wpAny_newObj_type (h c' _ h' tk hx' hge' hlt hrec htb.2) (by size_fits)))
theorem tailHitD {cv : Value} (hcl : closureFor scope env = pure clos) (hge0 : env.globals = mainGlobals) (hg : s.heap.Ns mainGlobals mg) (hcode : env.code = .ref c) (C : PySem.W.CodeHd s.heap c P) (hP : s.heap.get? P = some (tabObj ps)) (ht : TriplesOk ps.toList)
    (hf : codeAmong pos ps.toList = some cv) (hb : s.heap.BuiltinsAt mg P)
    (h : ∀ (ctv : Value) (h' : Heap) (tk : Tok), (∀ b o, s.heap.get? b = some o → h'.get? b = some o) → s.heap.objs.size ≤ h'.objs.size →
      Q (.ref h'.objs.size) { s with heap := h'.push { cls := .type "function", data := .func (fnD qual params body scope clos dV ((mg "__name__").getD .none) cv ctv) }, toks := tk }) :
    wpAny M A (makeTail "<lambda>" qual params (.expr body) scope env dV .none none pos firstLine) Q E s := by
  obtain ⟨bm, ob, hbm, hne0, _, hneP, hbo, hcls, hdict, hdata⟩ := hb
  unfold makeTail
  rw [hcl, hge0]
  refine wpAny_bind (wpAny_pure ?_)
  cases clos with
  | nil =>
    simp only [List.isEmpty_nil, if_true]
    refine wpAny_bind (wpAny_pure ?_)
    refine wpAny_bind (wpAny_functionCode_hit hcode (C.code hP ht) hf ?_)
    refine wpAny_bind (wpAny_builtinsFor hg hbm hne0 hbo hcls hdict hdata ?_)
    refine wpAny_bind (wpAny_nsGet hg ?_)
    exact wpAny_bind (wpAny_pure (wpAny_newObj_type (h .none s.heap s.toks (fun _ _ e => e) (Nat.le_refl _)) (by size_fits)))
  | cons q r =>
    simp only [List.isEmpty_cons, Bool.false_eq_true, if_false]
    refine wpAny_bind (wpAny_newTextTuple ?_)
    refine wpAny_bind (wpAny_functionCode_hit hcode ((C.keeps fun b o e => Heap.get?_push_of_some _ e).code (Heap.get?_push_of_some _ hP) ht) hf ?_)
    refine wpAny_bind (wpAny_builtinsFor (hg.push _) hbm hne0 (Heap.get?_push_of_some _ hbo) hcls hdict hdata ?_)
    refine wpAny_bind (wpAny_nsGet (hg.push _) ?_)
    have hsz : ∀ oT : Obj, s.heap.objs.size ≤ (s.heap.push oT).objs.size := fun oT => by rw [Heap.size_push]; omega
    exact wpAny_bind (wpAny_pure (wpAny_newObj_type (h _ _ s.toks (fun b o e => Heap.get?_push_of_some _ e) (hsz _)) (by size_fits)))
/-- lambda k=i: the default first, its tuple, then as a lambda without one -/
theorem evalD {i : Int} {j : Nat} {ip : Pos} (hdef : defaultsOf params env = ([eval (.Constant (.int i) j ip) env], [])) (hkw : params.kwonlyargs = [])
    (h : ∀ tk, wpAny M A (makeTail "<lambda>" (env.qual ++ "<lambda>") params (.expr body) scope env (.ref s.heap.objs.size) .none none pos pos.line) Q E { s with heap := s.heap.push (tupD i tk), toks := s.toks + 1 }) :
    wpAny M A (eval (.Lambda params body scope pos) env) Q E s := by
  rw [PySem.arm_eval_Lambda, hdef]
  show wpAny M A (do let dv ← evalAll [eval (.Constant (.int i) j ip) env]; let kdv ← holding dv (evalAllOpt []); makeFunction "<lambda>" (env.qual ++ "<lambda>") params (.expr body) scope env dv kdv [] pos pos.line) Q E s
  refine wpAny_bind ?_
  show wpAny M A (do let v ← eval (.Constant (.int i) j ip) env; return v :: (← holding [v] (evalAll []))) _ E s
  refine wpAny_bind (wpAny_Constant_int ?_)
  refine wpAny_bind (wpAny_holding (wpAny_pure ?_))
  refine wpAny_pure ?_
  refine wpAny_bind (wpAny_holding (wpAny_pure ?_))
  rw [makeFunction_eq, hkw]
  simp only [List.zip_nil_left, List.filterMap_nil, List.isEmpty_nil, List.isEmpty_cons, if_true, pure_bind, Bool.false_eq_true, if_false]
  exact wpAny_bind (wpAny_newTextTuple (h _))
end
section
variable {X : Cx} {pins : List (Addr × Obj)} {σ : L2.St} {H : Hp} {s : Shared}
theorem makeD {T : List (Addr × Str)} {c P : Addr} {params : Arguments} {body : Expr} {scope : Scope} {pos : Pos} {i : Int} {j : Nat} {ip : Pos} {E : Value → Shared → Prop} {Q : Value → Shared → Prop} (I : Inv X pins σ H s) (TB : TabB X.base X.mg c P) (hcode : X.env.code = .ref c)
    (hm : (P, X.env.qual ++ "<lambda>") ∈ T) (hu : ∀ p ∈ T, p.1 = P → p.2 = X.env.qual ++ "<lambda>") (hT : Tabs T H) (hdef : defaultsOf params X.env = ([eval (.Constant (.int i) j ip) X.env], [])) (hkw : params.kwonlyargs = []) (hfree : ∀ y ∈ scope.names, y.2 = .free → ∃ c, X.env.cells.lookup y.1 = some c)
    (h : ∀ (f c' tp : Addr) (tk : Tok) (pm ctv : Value) (H1 : Hp) (s' : Shared), Inv X pins σ H1 s' → ExtN H H1 → Tabs T H1 →
      s'.heap.get? f = some (objD (X.env.qual ++ "<lambda>") params body scope (cloFrom X.env.cells scope.names []) (.ref tp) pm c' ctv) → H1 f = none → f ∉ frs X.stack →
      s'.heap.get? tp = some (tupD i tk) → H1 tp = none → tp ∉ frs X.stack → H1 c' = some (CodeO c' (X.env.qual ++ "<lambda>")) → Q (.ref f) s') :
    wpAny (model X.prog X.w) X.A (eval (.Lambda params body scope pos) X.env) Q E s := by
  obtain ⟨ps, hP, ht, ha⟩ := hT _ hm
  refine evalD hdef hkw fun tk0 => ?_
  have I0 : Inv X pins σ H { s with heap := s.heap.push (tupD i tk0), toks := s.toks + 1 } := I.kept (t' := s.toks + 1) fun b o e => Heap.get?_push_of_some _ e
  have hT0 : (s.heap.push (tupD i tk0)).get? s.heap.objs.size = some (tupD i tk0) := Heap.get?_push_size _ rfl
  have hs0 : s.heap.objs.size < (s.heap.push (tupD i tk0)).objs.size := by rw [Heap.size_push]; omega
  have nT0 : H s.heap.objs.size = none := I.hok.fresh (Nat.le_refl _)
  have nofr0 : ∀ f, s.heap.objs.size ≤ f → f ∉ frs X.stack := fun f hf z => by
    rcases List.mem_cons.mp (I.stkSub _ z) with e | e
    · have h1 := I.lt
      rw [← e] at h1
      exact Nat.lt_irrefl _ (Nat.lt_of_lt_of_le h1 hf)
    · exact I.nofs hf e
  have bP : (s.heap.push (tupD i tk0)).BuiltinsAt X.mg P := TB.bm.keeps I0.bk
  have hP' : (s.heap.push (tupD i tk0)).get? P = some { cls := .none, data := .fields ps } := I0.hok P _ hP
  have nofr : ∀ f, (s.heap.push (tupD i tk0)).objs.size ≤ f → f ∉ frs X.stack := fun f hf => nofr0 f (Nat.le_trans (Nat.le_of_lt hs0) hf)
  cases hc : codeAmong pos ps.toList with
  | none =>
    refine tailD (s := { s with heap := s.heap.push (tupD i tk0), toks := s.toks + 1 }) (mg := X.mg) (c := c) (P := P) (ps := ps) (closure_ok hfree) I.ok.glob (I.mod.glob.keeps I0.bk) hcode (TB.code.keeps I0.bk) hP' ht hc TB.gP bP fun c' ctv h' tk hx hge hlt hrec htb => ?_
    obtain ⟨c2, oc, vs, t, e2, hoc, hd, hv⟩ := hrec
    cases e2
    have hsz : (s.heap.push (tupD i tk0)).objs.size ≤ h'.objs.size := Nat.le_trans hge (Nat.le_of_lt hlt)
    have nC : H c' = none := I0.hok.fresh hge
    have nTP : s.heap.objs.size ≠ P := Nat.ne_of_gt (Heap.lt_size (I.hok P _ hP : s.heap.get? P = _))
    have I1 := inv_table (t' := tk) (more := #[rawInt pos.line, rawInt pos.col, .ref c']) (h' := h'.push (objD (X.env.qual ++ "<lambda>") params body scope (cloFrom X.env.cells scope.names []) (.ref s.heap.objs.size) ((X.mg "__name__").getD .none) c' ctv)) I0 hP
      (fun b o hb e => Heap.get?_push_of_some _ (hx b o hb e)) (Heap.get?_push_of_some _ htb) hge ⟨oc, vs, t, Heap.get?_push_of_some _ hoc, hd, hv⟩
    have hE : ExtN H (upd (upd H P (.tbl (ps ++ #[rawInt pos.line, rawInt pos.col, .ref c']))) c' (CodeO c' (X.env.qual ++ "<lambda>"))) := fun b o e n => by
      rw [upd_ne (ne_of_none e nC), upd_ne (fun z => n ps (Option.some.inj (e.symm.trans (by rw [z]; exact hP))))]
      exact e
    have eL : (ps ++ #[rawInt pos.line, rawInt pos.col, .ref c']).toList = ps.toList ++ [rawInt pos.line, rawInt pos.col, .ref c'] := by simp
    refine h h'.objs.size c' s.heap.objs.size tk0 ((X.mg "__name__").getD .none) ctv _ _ I1 hE (fun p hp => ?_) (Heap.get?_push_size _ rfl) ?_ (nofr _ hsz) (Heap.get?_push_of_some _ (hx _ _ nTP hT0)) ?_ (nofr0 _ (Nat.le_refl _)) upd_same
    · by_cases hb : p.1 = P
      · rw [hu p hp hb, hb]
        refine ⟨_, by rw [upd_ne (ne_of_none hP nC), upd_same], by rw [eL]; exact PySem.TriplesOk_snoc _ _ _ _ ht, fun p' cv hcv => ?_⟩
        rw [eL] at hcv
        rcases among_app _ ht hcv with z | z
        · obtain ⟨c0, e1, e2⟩ := ha p' cv z
          exact ⟨c0, e1, hE _ _ e2 codeO_ne⟩
        · exact ⟨c', z, upd_same⟩
      · obtain ⟨ps', a1, a2, a3⟩ := hT p hp
        refine ⟨ps', by rw [upd_ne (ne_of_none a1 nC), upd_ne hb]; exact a1, a2, fun p' cv hcv => ?_⟩
        obtain ⟨c0, e1, e2⟩ := a3 p' cv hcv
        exact ⟨c0, e1, hE _ _ e2 codeO_ne⟩
    · have n1 : h'.objs.size ≠ c' := Nat.ne_of_gt hlt
      have n2 : h'.objs.size ≠ P := Nat.ne_of_gt (Nat.lt_of_lt_of_le (Heap.lt_size hP') hsz)
      rw [upd_ne n1, upd_ne n2]
      exact I0.hok.fresh hsz
    · have n1 : s.heap.objs.size ≠ c' := Nat.ne_of_lt (Nat.lt_of_lt_of_le hs0 hge)
      rw [upd_ne n1, upd_ne nTP]
      exact nT0
  | some cv =>
    obtain ⟨c', e, hco⟩ := ha pos cv hc
    subst e
    refine tailHitD (s := { s with heap := s.heap.push (tupD i tk0), toks := s.toks + 1 }) (mg := X.mg) (c := c) (P := P) (ps := ps) (closure_ok hfree) I.ok.glob (I.mod.glob.keeps I0.bk) hcode (TB.code.keeps I0.bk) hP' ht hc bP fun ctv h' tk hx hsz => ?_
    have I1 : Inv X pins σ H { s with heap := h'.push (objD (X.env.qual ++ "<lambda>") params body scope (cloFrom X.env.cells scope.names []) (.ref s.heap.objs.size) ((X.mg "__name__").getD .none) c' ctv), toks := tk } := I0.kept fun b o e => Heap.get?_push_of_some _ (hx b o e)
    exact h h'.objs.size c' s.heap.objs.size tk0 ((X.mg "__name__").getD .none) ctv H _ I1 (ExtN.refl H) hT (Heap.get?_push_size _ rfl) (I0.hok.fresh hsz) (nofr _ hsz) (Heap.get?_push_of_some _ (hx _ _ hT0)) nT0 (nofr0 _ (Nat.le_refl _)) hco
end
/-- one parameter, no other name of its own: captured ones and globals -/
structure LamSD (sc scope : Scope) (p : Str) : Prop where
  kind : scope.kind = .function
  co : scope.isCoroutine = false
  gen : scope.isGenerator = false
  own : ∀ y ∈ scope.names, (y.2 = .local → y.1 = p) ∧ y.2 ≠ .cell
  par : scope.names.lookup p = some .local
  free : ∀ y ∈ scope.names, y.2 = .free → sc.names.lookup y.1 = some .cell ∨ sc.names.lookup y.1 = some .free
def lamSDB (sc scope : Scope) (p : Str) : Bool :=
  decide (scope.kind = .function) && !scope.isCoroutine && !scope.isGenerator && decide (scope.names.lookup p = some .local) && scope.names.all fun y => (!decide (y.2 = .local) || decide (y.1 = p)) && !decide (y.2 = .cell) && (!decide (y.2 = .free) || decide (sc.names.lookup y.1 = some .cell) || decide (sc.names.lookup y.1 = some .free))
theorem lamSD_by {sc scope : Scope} {p : Str} (h : lamSDB sc scope p = true) : LamSD sc scope p := by
  unfold lamSDB at h
  simp only [Bool.and_eq_true, Bool.or_eq_true, Bool.not_eq_true', decide_eq_true_eq, decide_eq_false_iff_not, List.all_eq_true] at h
  obtain ⟨⟨⟨⟨h1, h2⟩, h3⟩, h5⟩, h4⟩ := h
  refine ⟨h1, h2, h3, fun y hy => ⟨fun e => ((h4 y hy).1.1).elim (fun z => absurd e z) id, (h4 y hy).1.2⟩, h5, fun y hy e => ?_⟩
  rcases (h4 y hy).2 with (z | z) | z
  · exact absurd e z
  · exact .inl z
  · exact .inr z
theorem LamSD.has {X : Cx} {scope : Scope} {p : Str} (L : LamSD X.env.scope scope p) (ok : X.Ok) : ∀ y ∈ scope.names, y.2 = .free → ∃ c, X.env.cells.lookup y.1 = some c := fun y hy e => by
  rcases L.free y hy e with k | k
  · exact ok.has _ (.inl k)
  · exact ok.has _ (.inr k)
section
variable {X : Cx} {pins : List (Addr × Obj)} {σ : L2.St} {H HZ : Hp} {s s1 : Shared}
theorem startD {A : Around} {outer : List Env} {E : XK} {scope : Scope} {p : Str} {f c' : Addr} {h₁ : Heap} {tk : Nat} {bs : List (Str × Value)} (I : Inv X pins σ H s) (L : LamSD X.env.scope scope p) (hp : p ∉ X.N) (e0 : Env0 X.prog X.w X.K X.mg X.base A outer s1 HZ) (hd : A.handled = none)
    (un : Un (frs X.stack) [] H HZ s.heap s1.heap) (hns : h₁.Ns s1.heap.objs.size fun y => bs.reverse.lookup y) (kp : ∀ b o, s1.heap.get? b = some o → h₁.get? b = some o) :
    Inv (lamCx X A outer s1 HZ E scope f c') [] σ HZ { s1 with heap := h₁, toks := tk } := by
  have hfree := L.has I.ok
  have cm : ∀ {y c}, (cloFrom X.env.cells scope.names []).lookup y = some c → X.env.cells.lookup y = some c := fun {y c} e => by
    rcases cloFrom_mem (PySem.mem_of_lookup e) with hm | ⟨h1, h2⟩
    · cases hm
    · obtain ⟨c1, hc⟩ := hfree _ h1 rfl
      have hc : X.env.cells.lookup y = some c1 := hc
      have e2 : c = c1 := by
        rw [h2, hc] <;> rfl
      rw [e2]
      exact hc
  have look : ∀ {y}, scope.names.lookup y = some .free → ∃ c, (cloFrom X.env.cells scope.names []).lookup y = some c := fun {y} hl => by
    have hy : (y, NameKind.free) ∈ scope.names := PySem.mem_of_lookup hl
    exact mem_lookup (cloFrom_has (cells := X.env.cells) (acc := []) hy)
  have cellK : ∀ {c : Addr} {v : Option Value}, H c = none → s.heap.IsCell c v → h₁.IsCell c v := fun {c v} n ⟨o, ho, hd⟩ => by
    obtain ⟨sl, q⟩ := un.any ho n (by simp)
    exact ⟨_, kp _ _ q, hd⟩
  have noA : ∀ b : Addr, b ∉ (lamCx X A outer s1 HZ E scope f c').ex := fun b z => absurd (show b ∈ ([] : List Addr) from z) (by simp)
  refine ⟨⟨e0.mod, L.kind, rfl, rfl, Nat.le_refl _, fun y z c e1 e2 => I.ok.inj y z c (cm e1) (cm e2), fun y hy => ?_, fun y c z _ => ?_, fun _ => hd, Around.frames_deeper e0.frames, .inr ⟨rfl, rfl⟩, fun b z => absurd z (noA b), e0.bs, e0.bsz, fun b _ _ => noA b,
      fun b z => absurd z (noA b), e0.funs, e0.frf⟩,
    rfl, e0.bare, Un.kept kp, ⟨_, hns, fun i y v e1 e2 e3 => ?_⟩, fun y c e => ?_, e0.hok.fresh (Nat.le_refl _), fun y c e => ?_, fun q hq => absurd (show q ∈ ([] : List (Addr × Obj)) ++ [] from hq) (by simp), e0.hok.kept kp, I.len⟩
  · have hy : scope.names.lookup y = some .cell ∨ scope.names.lookup y = some .free := hy
    rcases hy with hy | hy
    · exact absurd rfl (L.own _ (PySem.mem_of_lookup hy)).2
    · exact look hy
  · have z : false = true := z
    cases z
  · have e3 : Vis scope y := e3
    rcases e3 with k | k | k
    · have ey : y = p := (L.own _ (PySem.mem_of_lookup k)).1 rfl
      have e1 : X.N[i]? = some y := e1
      rw [ey] at e1
      exact absurd (List.mem_of_getElem? e1) hp
    · exact absurd rfl (L.own _ (PySem.mem_of_lookup k)).2
    · obtain ⟨m, hn, hl⟩ := I.loc
      have hvis : Vis X.env.scope y := (L.free _ (PySem.mem_of_lookup k) rfl).elim (fun k => .inr (.inl k)) (fun k => .inr (.inr k))
      obtain ⟨w', r, q⟩ := hl i y v e1 e2 hvis
      obtain ⟨c2, h2⟩ := look k
      refine ⟨w', r, .inr ⟨.inr k, c2, h2, ?_⟩⟩
      have c1 := cm h2
      rcases q with ⟨k', _⟩ | ⟨_, c3, e', z⟩
      · have k' : X.env.scope.names.lookup y = some .local := k'
        rcases L.free _ (PySem.mem_of_lookup k) rfl with k2 | k2 <;> rw [show X.env.scope.names.lookup y = _ from k2] at k' <;> cases k'
      · rw [c1] at e'
        cases e'
        exact cellK (I.freeC y _ c1) z
  · obtain ⟨w', z⟩ := I.cell y c (cm e)
    exact ⟨w', cellK (I.freeC y c (cm e)) z⟩
  · obtain ⟨v, o, ho, hd⟩ := I.cell y c (cm e)
    exact un.free c o ho (I.freeC y c (cm e)) (by simp)
/-- x(), in the def that got the lambda -/
theorem actD {CXg : CXT} {Eg : XK} {Ng : List Str} {qg : Str} {sg : Scope} {g f c' tp : Addr} {tk0 : Tok} {iv : Int} {cdg pm ctv : Value} {params : Arguments} {body : Expr} {scope : Scope} {p : Str} {k i : Nat} {a : Str} {pn : List (Addr × Obj)} {xe : Value → Shared → Prop} {W : WX} {E : XK} {tb : TE} {p1 p2 : Pos}
    (I : Inv X pins σ H s) (L : LamSD X.env.scope scope p) (hpN : p ∉ X.N) (hf : s.heap.get? f = some (objD (X.env.qual ++ "<lambda>") params body scope (cloFrom X.env.cells scope.names []) (.ref tp) pm c' ctv)) (hfn : H f = none) (hfr : f ∉ frs X.stack)
    (htp : s.heap.get? tp = some (tupD iv tk0)) (htn : H tp = none) (htr : tp ∉ frs X.stack)
    (hbind : ∀ (v : Value), ∃ k, bindArgs (fnD (X.env.qual ++ "<lambda>") params body scope (cloFrom X.env.cells scope.names []) (.ref tp) pm (.ref c') ctv) ⟨[], []⟩ = seqItems? (.ref tp) >>= k ∧ k (some #[v]) = pure [(p, v)])
    (tk : Takes ((cxOf CXg X.prog X.w X.K X.mg X.base Ng qg sg g cdg X.A X.stack s H Eg).tr pn xe) W) (hW : ∀ cls d σ' H', E cls d H' → W cls d σ' H') (hr : Room (k + 1) (X.A.deeper (envOfC qg sg s.heap.objs.size g cdg)))
    (hbody : ∀ (A : Around) (outer : List Env) (s : Shared) (H : Hp), Room k (A.deeper (lamEnv X scope s.heap.objs.size f c')) → PE (lamCx X A outer s H E scope f c') body tb)
    (hN : Ng[i]? = some a) (hv : Vis sg a) (hd : (a == ("__debug__" : Str)) = false := by decide) (hcd : (a == ("__classdict__" : Str)) = false := by decide) :
    PE ((cxOf CXg X.prog X.w X.K X.mg X.base Ng qg sg g cdg X.A X.stack s H Eg).tr pn xe) (.Call (.Name a p1) [] [] p2)
      (fun σZ HZ Q => σZ[i]? = some (some (.ref f)) ∧ HZ c' = some (CodeO c' (X.env.qual ++ "<lambda>")) ∧ tb σ HZ Q) := by
  refine ⟨fun pinsZ sZ σZ HZ Q IZ h => ?_⟩
  obtain ⟨hs, hc, ht⟩ := h
  refine wpAny_Call_Name_kw (thn ((pe_var (pos := p1) (i := i) hN hv hd hcd).run pinsZ sZ σZ HZ (fun v H1 => v = .ref f ∧ H1 = HZ) IZ ⟨.ref f, hs, rfl, rfl⟩) fun u s1 ⟨v, H1, I1, r1, q1⟩ => ?_)
  obtain ⟨ev, eH⟩ := q1
  subst ev
  rw [eH] at I1
  obtain rfl : u = Value.ref f := r1
  have of1 : s1.heap.get? f = some (objD (X.env.qual ++ "<lambda>") params body scope (cloFrom X.env.cells scope.names []) (.ref tp) pm c' ctv) := I1.base.keep f _ hf hfn hfr (fun z => nomatch (show f ∈ ([] : List Addr) from z))
  have ot1 : s1.heap.get? tp = some (tupD iv tk0) := I1.base.keep tp _ htp htn htr (fun z => nomatch (show tp ∈ ([] : List Addr) from z))
  refine PySem.W.callWith_F0 ⟨_, _, _, _, of1⟩ ?_
  have un : Un (frs X.stack) [] H HZ s.heap s1.heap := I1.base
  obtain ⟨⟨oc, vs, t, hoc, hdc, hvc⟩, _, _⟩ := I1.hok c' _ hc
  have rc : codeAny (model X.prog X.w) (X.A.deeper (envOfC qg sg s.heap.objs.size g cdg)) (.call (.ref f) ⟨[], []⟩) (CR (L2.CX X.prog X.w) (envOfC qg sg s.heap.objs.size g cdg :: X.stack) X.prog X.w HZ s1 Q E) s1 := by
    refine PySem.W.kla_callFunE hr.depth of1 rfl L.co L.gen rfl ⟨c', oc, vs, t, rfl, hoc, hdc, hvc⟩ ?_
    obtain ⟨kk, b1, b2⟩ := hbind (.int iv tk0)
    rw [b1]
    refine wpAny_bind (wpAny_seqItems ot1 rfl ?_)
    rw [b2]
    refine wpAny_pure (wpAny_newFunctionEnv (fun y hy => (L.own y hy).2) (fun y hy => ?_) (fun h₁ hns hsb => ⟨I1.nolimit.fresh _ hsb, ?_⟩) L.kind)
    · have ey : y = (p, Value.int iv tk0) := List.mem_singleton.mp hy
      rw [ey]
      exact L.par
    show codeAny _ _ (.expr body (lamEnv X scope s1.heap.objs.size f c')) _ _
    have kp : ∀ b o, s1.heap.get? b = some o → h₁.get? b = some o := fun b o e => hsb.extBut b o (Nat.ne_of_lt (Heap.lt_size e)) (Heap.get?_push_of_some _ e)
    have J : Inv (lamCx X (X.A.deeper (envOfC qg sg s.heap.objs.size g cdg)) (envOfC qg sg s.heap.objs.size g cdg :: X.stack) s1 HZ E scope f c') [] σ HZ { s1 with heap := h₁, toks := s1.toks + ([(p, Value.int iv tk0)] : List (Str × Value)).length } :=
      startD I L hpN I1.env0 hr.hd un hns kp
    refine PySem.W.kla_codeExpr (wpAny_mono ((hbody _ _ s1 HZ (hr.deeper _)).run [] _ _ HZ Q J ht) (fun v s' hq => ?_) fun e s' hq => hq)
    obtain ⟨w', H', J', rv, q⟩ := hq
    exact ⟨w', H', J'.os, J'.bare, J'.base, J'.hok, rv, q⟩
  have hx : Passes (L2.CX X.prog X.w) ((cxOf CXg X.prog X.w X.K X.mg X.base Ng qg sg g cdg X.A X.stack s H Eg).tr pn xe) E := passes_call tk hW
  refine wpAny_call (codeAny_mono rc fun r s' hq => ?_)
  cases r with
  | error e => exact hx pinsZ σZ HZ s1 e s' I1 hq
  | ok fl =>
    cases fl with
    | ret u => exact I1.after hq
    | next => exact False.elim hq
    | brk => exact False.elim hq
    | cont => exact False.elim hq
end
section
variable {X : Cx}
/-- x(lambda k=i: body) -/
theorem pe_lamcallD {T : List (Addr × Str)} {TT : (XK → Hp → VK → Prop) → Hp → VK → Prop} {x a kp : Str} {g c P : Addr} {k : Nat} {pg : Arguments} {bg : List Stmt} {sg : Scope} {dV kV doc pm cdv ct oc : Value} {an od : Option Addr} {osl : Array (Option Value)} {Ng : List Str}
    {params : Arguments} {body : Expr} {scope : Scope} {t : XK → TE} {p lpos pos : Pos} {iv : Int} {ij : Nat} {ip : Pos} (hg : Gl X x) (hm : X.mg x = some (.ref g)) (hk : PySem.W.keepIn X.K (.ref g) = true)
    (lk : X.K.lookup g = some ⟨oc, od, .func (PySem.W.fnOf x x pg bg sg dV kV doc pm an cdv ct), osl⟩) (hcg : PySem.W.codeIn X.K cdv x = true) (hb : L2.Binds X.K (PySem.W.fnOf x x pg bg sg dV kV doc pm an cdv ct) [a] []) (Sg : FnScope Ng [a] sg) (hNg : Ng[0]? = some a) (hva : Vis sg a)
    (hG : GivesTo X Ng x sg g cdv bg a (X.env.qual ++ "<lambda>") TT)
    (TB : TabB X.base X.mg c P) (hcode : X.env.code = .ref c) (hmT : (P, X.env.qual ++ "<lambda>") ∈ T) (hu : ∀ p ∈ T, p.1 = P → p.2 = X.env.qual ++ "<lambda>") (hr : Room (k + 2) X.A) (L : LamSD X.env.scope scope kp) (hpN : kp ∉ X.N)
    (hdef : defaultsOf params X.env = ([eval (.Constant (.int iv) ij ip) X.env], [])) (hkw : params.kwonlyargs = [])
    (hbind : ∀ (q : Str) (cl : List (Str × Addr)) (tp : Addr) (pm cv ctv v : Value), ∃ k, bindArgs (fnD q params body scope cl (.ref tp) pm cv ctv) ⟨[], []⟩ = seqItems? (.ref tp) >>= k ∧ k (some #[v]) = pure [(kp, v)])
    (hbody : ∀ (A : Around) (outer : List Env) (s : Shared) (H : Hp) (E : XK) (f c' : Addr), Room k (A.deeper (lamEnv X scope s.heap.objs.size f c')) → PE (lamCx X A outer s H E scope f c') body (t E))
    (hdb : (x == ("__debug__" : Str)) = false := by decide) (hd : (a == ("__debug__" : Str)) = false := by decide) (hcd : (a == ("__classdict__" : Str)) = false := by decide) :
    PE X (.Call (.Name x p) [.Lambda params body scope lpos] [] pos) (tLam T TT t) := by
  refine ⟨fun pins s σ H Q I h => ?_⟩
  obtain ⟨hT, h⟩ := h
  refine wpAny_Call_Name_kw (ld_glob I hg hm ?_ hdb)
  refine PySem.W.callWith_K (h₀ := X.base) I.ok.mod.kin hk ?_ (by rfl) (by rfl)
  show wpAny _ _ (spliced ((false, eval (.Lambda params body scope lpos) X.env) :: backTo pos (starEach [] X.env))) _ _ s
  refine Calls.spliced_cons (makeD I TB hcode hmT hu hT hdef hkw (L.has I.ok) fun f c' tp tk0 pm' ctv H1 s' I1 eN T1 hf hfn hfr htp htn htr hco => ?_)
  refine Calls.spliced_nil ⟨I1.kIn, ?_⟩
  have rc : codeAny (model X.prog X.w) X.A (.call (.ref g) ⟨[.ref f], []⟩) (CR C8.CX0 X.stack X.prog X.w H1 s' Q C8.E0) s' := by
    refine run_ofS (N := Ng) (ps := [a]) (us := [.ref f]) (vs := [.ref f]) lk hcg Sg hr I1.env0 (hb s' [.ref f] I1.kIn rfl) (.cons rfl .nil) rfl fun hr' => ?_
    obtain ⟨t', ht', hq'⟩ := hG f c' s' H1 Q (fun E H' Q' => t E σ H' Q') (fun W pn xe E p1 p2 tk hW => actD (i := 0) I1 L hpN hf hfn hfr htp htn htr (fun v => hbind _ _ _ _ _ _ v) tk hW hr' (fun A outer s H hr2 => hbody A outer s H E f c' hr2) hNg hva hd hcd) hco (h H1 eN T1)
    exact ⟨t', ht'.nox, hq'⟩
  refine wpAny_call (codeAny_mono rc fun r s2 hq => ?_)
  cases r with
  | error e => exact (show False from hq).elim
  | ok fl =>
    cases fl with
    | ret u => exact I1.after hq
    | next => exact False.elim hq
    | brk => exact False.elim hq
    | cont => exact False.elim hq
end
end DL

set_option Elab.async false
set_option linter.all false
set_option maxRecDepth 100000
set_option maxHeartbeats 4000000
/-! words for a whole program: defs by name, data, what is kept -/
namespace DL
open PySem PySem.Spec PyProof.Rows L2
/-! ### a def of the module, by its name -/
section
variable (P : Program) (w : World) (K : PySem.W.Frag) (mg : Str → Option Value) (base : Heap)
/-- the def x of the module stands there and keeps sp; n parameters ps, none with a default -/
structure Cal (k : Nat) (x : Str) (st : Stmt) (ps : List Str) (sp : Sp) : Prop where
  ex : ∃ (f : Addr) (fd : FuncData), mg x = some (.ref f) ∧ FunD K x x (defArgs st) (defBody st) (defScope st) [] [] f fd ∧ FnOk P w K mg base (L2.CX P w) k f fd ps sp
end
section
variable {X : Cx} {k j : Nat} {x : Str} {st : Stmt} {ps : List Str} {sp sp' : Sp} {E : XK} {p pos : Pos} {e : Expr} {es : List Expr} {t : TA}
theorem Cal.imp {P : Program} {w : World} {K : PySem.W.Frag} {mg : Str → Option Value} {base : Heap} (C : Cal P w K mg base k x st ps sp) (h : ∀ vs H Q E, sp' vs H Q E → sp vs H Q E) : Cal P w K mg base k x st ps sp' := by
  obtain ⟨f, fd, a, b, c⟩ := C.ex
  exact ⟨f, fd, a, b, c.imp h⟩
/-- the parameters' binding, told of the def's own text -/
def Bd (x : Str) (st : Stmt) (ps : List Str) : Prop := ∀ (kV doc pm : Value) (an : Option Addr) (cdv ct : Value) (us : List Value), us.length = ps.length → bindArgs (PySem.W.fnOf x x (defArgs st) (defBody st) (defScope st) .none kV doc pm an cdv ct) ⟨us, []⟩ = pure (ps.zip us)
theorem pe_cal (C : Cal X.prog X.w X.K X.mg X.base j x st ps sp) (bd : Bd x st ps) (hr : Room k X.A) (hj : j ≤ k) (hx : Passes (L2.CX X.prog X.w) X E) (hg : Gl X x) (ha : PA X (e :: es) t) (hdb : (x == ("__debug__" : Str)) = false := by decide)
    (he : starEach (e :: es) X.env = (false, eval e X.env) :: starEach es X.env := by rfl) (hpl : (backTo pos (starEach es X.env)).any (·.1) = false := by rfl) : PE X (.Call (.Name x p) (e :: es) [] pos) (tCall sp [] E t) := by
  obtain ⟨f, fd, hm, F, G⟩ := C.ex
  exact pe_call G (hr.mono hj) hg hm F.kp (F.bindsN bd) .nil hx ha hdb he hpl
/-- f(a = .., b = ..): keywords alone -/
theorem pe_callK0 {CX : CXT} {f : Addr} {fd : FuncData} {ks : List Str} {g : List Value → List Value → List Value} {gV : List V → List V → List V} {kws : List Keyword} {tk : TA} (F : FnOk X.prog X.w X.K X.mg X.base CX k f fd ps sp) (hr : Room k X.A) (hg : Gl X x) (hm : X.mg x = some (.ref f)) (hk : PySem.W.keepIn X.K (.ref f) = true) (hb : KBinds X.K fd ps ks g gV) (hx : Passes CX X E)
    (hkw : PK X kws tk) (hall : (backToKw pos (keywordEach kws X.env)).all (·.1.isSome) = true := by rfl) (hks : (backToKw pos (keywordEach kws X.env)).filterMap (·.1) = ks := by rfl)
    (hdb : (x == ("__debug__" : Str)) = false := by decide) (hpl : ((backTo pos (starEach [] X.env)).any (·.1) || (backToKw pos (keywordEach kws X.env)).any (·.1.isNone)) = false := by rfl) :
    PE X (.Call (.Name x p) [] kws pos) (fun σ H Q => tk σ H fun zs H2 => sp (gV [] zs) H2 Q E) := by
  refine ⟨fun pins s σ H Q I h => ?_⟩
  refine wpAny_Call_Name_kw (ld_glob I hg hm ?_ hdb)
  refine PySem.W.callWith_KW0 (h₀ := X.base) I.ok.mod.kin hk hall (thn (hkw.run pos pins s σ H _ I h) fun ws s2 ⟨zs, H2, I2, rz, q2⟩ => ⟨I2.kIn, ?_⟩) hpl
  rw [hks]
  exact run_fnk F hr hb hx I2 .nil rz q2
/-- two keywords, in the parameters' order -/
def Bd2 (x : Str) (st : Stmt) (a b : Str) (ps : List Str) : Prop := ∀ (kV doc pm : Value) (an : Option Addr) (cdv ct u w : Value), bindArgs (PySem.W.fnOf x x (defArgs st) (defBody st) (defScope st) .none kV doc pm an cdv ct) ⟨[], [(a, u), (b, w)]⟩ = pure (ps.zip [u, w])
def Bd2r (x : Str) (st : Stmt) (a b : Str) (ps : List Str) : Prop := ∀ (kV doc pm : Value) (an : Option Addr) (cdv ct u w : Value), bindArgs (PySem.W.fnOf x x (defArgs st) (defBody st) (defScope st) .none kV doc pm an cdv ct) ⟨[], [(a, u), (b, w)]⟩ = pure (ps.zip [w, u])
/-- the values in the parameters' order; else a list of no use -/
def gOrd {α : Type} : List α → List α → List α
  | [], [u, v] => [u, v]
  | _, _ => []
def gRev {α : Type} : List α → List α → List α
  | [], [u, v] => [v, u]
  | _, _ => []
theorem gOrd_rel : ∀ {vs : List V} {us : List Value} {zs : List V} {ws : List Value}, Vals vs us → Vals zs ws → Vals (gOrd vs zs) (gOrd us ws)
  | _, _, _, _, .nil, .cons a (.cons b .nil) => .cons a (.cons b .nil)
  | _, _, _, _, .nil, .nil => .nil
  | _, _, _, _, .nil, .cons _ .nil => .nil
  | _, _, _, _, .nil, .cons _ (.cons _ (.cons _ _)) => .nil
  | _, _, _, _, .cons _ _, .nil => .nil
  | _, _, _, _, .cons _ _, .cons _ .nil => .nil
  | _, _, _, _, .cons _ _, .cons _ (.cons _ .nil) => .nil
  | _, _, _, _, .cons _ _, .cons _ (.cons _ (.cons _ _)) => .nil
theorem gRev_rel : ∀ {vs : List V} {us : List Value} {zs : List V} {ws : List Value}, Vals vs us → Vals zs ws → Vals (gRev vs zs) (gRev us ws)
  | _, _, _, _, .nil, .cons a (.cons b .nil) => .cons b (.cons a .nil)
  | _, _, _, _, .nil, .nil => .nil
  | _, _, _, _, .nil, .cons _ .nil => .nil
  | _, _, _, _, .nil, .cons _ (.cons _ (.cons _ _)) => .nil
  | _, _, _, _, .cons _ _, .nil => .nil
  | _, _, _, _, .cons _ _, .cons _ .nil => .nil
  | _, _, _, _, .cons _ _, .cons _ (.cons _ .nil) => .nil
  | _, _, _, _, .cons _ _, .cons _ (.cons _ (.cons _ _)) => .nil
theorem gOrd_two {α : Type} {us ws : List α} (h : (gOrd us ws).length = 2) : ∃ u v, us = [] ∧ ws = [u, v] := by
  match us, ws, h with
  | [], [u, v], _ => exact ⟨u, v, rfl, rfl⟩
  | [], [], h => exact absurd (show (0 : Nat) = 2 from h) (by decide)
  | [], [_], h => exact absurd (show (0 : Nat) = 2 from h) (by decide)
  | [], _ :: _ :: _ :: _, h => exact absurd (show (0 : Nat) = 2 from h) (by decide)
  | _ :: _, [], h => exact absurd (show (0 : Nat) = 2 from h) (by decide)
  | _ :: _, [_], h => exact absurd (show (0 : Nat) = 2 from h) (by decide)
  | _ :: _, [_, _], h => exact absurd (show (0 : Nat) = 2 from h) (by decide)
  | _ :: _, _ :: _ :: _ :: _, h => exact absurd (show (0 : Nat) = 2 from h) (by decide)
theorem gRev_two {α : Type} {us ws : List α} (h : (gRev us ws).length = 2) : ∃ u v, us = [] ∧ ws = [u, v] := by
  match us, ws, h with
  | [], [u, v], _ => exact ⟨u, v, rfl, rfl⟩
  | [], [], h => exact absurd (show (0 : Nat) = 2 from h) (by decide)
  | [], [_], h => exact absurd (show (0 : Nat) = 2 from h) (by decide)
  | [], _ :: _ :: _ :: _, h => exact absurd (show (0 : Nat) = 2 from h) (by decide)
  | _ :: _, [], h => exact absurd (show (0 : Nat) = 2 from h) (by decide)
  | _ :: _, [_], h => exact absurd (show (0 : Nat) = 2 from h) (by decide)
  | _ :: _, [_, _], h => exact absurd (show (0 : Nat) = 2 from h) (by decide)
  | _ :: _, _ :: _ :: _ :: _, h => exact absurd (show (0 : Nat) = 2 from h) (by decide)
/-- f(a = .., b = ..), a and b its two parameters -/
theorem pe_cal2 {a b : Str} {ea eb : Expr} {ta tb : TE} {ka kb : Pos} (C : Cal X.prog X.w X.K X.mg X.base j x st [a, b] sp) (bd : Bd2 x st a b [a, b]) (hr : Room k X.A) (hj : j ≤ k) (hx : Passes (L2.CX X.prog X.w) X E) (hg : Gl X x) (ha : PE X ea ta) (hb : PE X eb tb)
    (hdb : (x == ("__debug__" : Str)) = false := by decide) (hall : (backToKw pos (keywordEach [⟨some a, ea, ka⟩, ⟨some b, eb, kb⟩] X.env)).all (·.1.isSome) = true := by rfl) (hks : (backToKw pos (keywordEach [⟨some a, ea, ka⟩, ⟨some b, eb, kb⟩] X.env)).filterMap (·.1) = [a, b] := by rfl)
    (hpl : ((backTo pos (starEach [] X.env)).any (·.1) || (backToKw pos (keywordEach [⟨some a, ea, ka⟩, ⟨some b, eb, kb⟩] X.env)).any (·.1.isNone)) = false := by rfl) :
    PE X (.Call (.Name x p) [] [⟨some a, ea, ka⟩, ⟨some b, eb, kb⟩] pos) (fun σ H Q => ta σ H fun u H1 => tb σ H1 fun v H2 => sp [u, v] H2 Q E) := by
  obtain ⟨f, fd, hm, F, G⟩ := C.ex
  have kbn : KBinds X.K fd [a, b] [a, b] gOrd gOrd := by
    refine ⟨fun s us ws KX hl => ?_, gOrd_rel⟩
    obtain ⟨oc, od, dV, kV, doc, pm, an, cdv, ct, osl, rfl, lk, hcd, hD, hK⟩ := F.ex
    have hd : dV = .none := by
      rcases hD with ⟨_, e⟩ | ⟨e, _⟩
      · exact e
      · exact absurd rfl e
    subst hd
    obtain ⟨u, v, rfl, rfl⟩ := gOrd_two hl
    exact .of_eq (bd kV doc pm an cdv ct u v)
  exact pe_callK0 (p := p) (pos := pos) G (hr.mono hj) hg hm F.kp kbn hx (pk_cons ha (pk_cons hb pk_nil)) hall hks hdb hpl
/-- f(b = .., a = ..) -/
theorem pe_cal2r {a b : Str} {ea eb : Expr} {ta tb : TE} {ka kb : Pos} (C : Cal X.prog X.w X.K X.mg X.base j x st [a, b] sp) (bd : Bd2r x st b a [a, b]) (hr : Room k X.A) (hj : j ≤ k) (hx : Passes (L2.CX X.prog X.w) X E) (hg : Gl X x) (hb : PE X eb tb) (ha : PE X ea ta)
    (hdb : (x == ("__debug__" : Str)) = false := by decide) (hall : (backToKw pos (keywordEach [⟨some b, eb, kb⟩, ⟨some a, ea, ka⟩] X.env)).all (·.1.isSome) = true := by rfl) (hks : (backToKw pos (keywordEach [⟨some b, eb, kb⟩, ⟨some a, ea, ka⟩] X.env)).filterMap (·.1) = [b, a] := by rfl)
    (hpl : ((backTo pos (starEach [] X.env)).any (·.1) || (backToKw pos (keywordEach [⟨some b, eb, kb⟩, ⟨some a, ea, ka⟩] X.env)).any (·.1.isNone)) = false := by rfl) :
    PE X (.Call (.Name x p) [] [⟨some b, eb, kb⟩, ⟨some a, ea, ka⟩] pos) (fun σ H Q => tb σ H fun v H1 => ta σ H1 fun u H2 => sp [u, v] H2 Q E) := by
  obtain ⟨f, fd, hm, F, G⟩ := C.ex
  have kbn : KBinds X.K fd [a, b] [b, a] gRev gRev := by
    refine ⟨fun s us ws KX hl => ?_, gRev_rel⟩
    obtain ⟨oc, od, dV, kV, doc, pm, an, cdv, ct, osl, rfl, lk, hcd, hD, hK⟩ := F.ex
    have hd : dV = .none := by
      rcases hD with ⟨_, e⟩ | ⟨e, _⟩
      · exact e
      · exact absurd rfl e
    subst hd
    obtain ⟨u, v, rfl, rfl⟩ := gRev_two hl
    exact .of_eq (bd kV doc pm an cdv ct u v)
  exact pe_callK0 (p := p) (pos := pos) G (hr.mono hj) hg hm F.kp kbn hx (pk_cons hb (pk_cons ha pk_nil)) hall hks hdb hpl
end
/-- // by any divisor but 0, below 2 ^ 9000 -/
def CDivA (_ j : Int) : Prop := j ≠ 0 ∧ j.natAbs.log2 < 9000
theorem op_fdivA {X : Cx} : OpR X (binaryOp .FloorDiv) (rI CDivA fun i j => .int (i.fdiv j)) := opI fun i j _ _ _ _ _ hc q => floordiv_int hc.1 q (.inl (PyProof.noPylong_of_log2 hc.2))
end DL

set_option Elab.async false
set_option linter.all false
set_option maxRecDepth 100000
set_option maxHeartbeats 4000000
/-! own error classes whose __init__ keeps one field; data -/
namespace DL
open PySem PySem.Spec PyProof.Rows L2
abbrev Ex : Hp → Hp → Prop := Evl.Ex
theorem ex_refl (H : Hp) : Ex H H := Evl.Ex.refl H
theorem ex_new {H : Hp} {p : Addr} {o : HO} (h : H p = none) : Ex H (upd H p o) := Evl.Ex.new h
theorem Ex.tr {H H1 H2 : Hp} (a : Ex H H1) (b : Ex H1 H2) : Ex H H2 := Evl.Ex.trans a b
theorem Ex.back {H H' : Hp} {p : Addr} (e : Ex H H') (h : H' p = none) : H p = none := Evl.fresh_back e h
/-! ### an error's __init__(self, f): self.f = f -/
def spXI (K : PySem.W.Frag) (C : Addr) (f : Str) : Sp := fun vs H Q _ => ∃ (a : Addr) (v : V), vs = [.ref a, v] ∧ H a = some (exo a C none) ∧ OexC K C ∧ PySem.W.findIn K (.ref C) f = some none ∧
  ∀ dx, H dx = none → dx ≠ a → Q .non (upd (upd H dx (exd dx [(f, v)])) a (exo a C (some dx)))
def initBody (f : Str) (p1 p2 p3 p4 : Pos) : List Stmt := [.Assign [.Attribute (.Name "self" p1) f p2] (.Name f p3) p4]
section
variable {P : Program} {w : World} {K : PySem.W.Frag} {mg : Str → Option Value} {base : Heap}
theorem xi_ok {q f : Str} {st : Stmt} {fI C : Addr} {fd : FuncData} {p1 p2 p3 p4 : Pos} (F : FunD K "__init__" q (defArgs st) (defBody st) (defScope st) [] [] fI fd) (S : FnScope ["self", f] ["self", f] (defScope st)) (hb : defBody st = initBody f p1 p2 p3 p4)
    (hl : (defScope st).names.lookup ("self" : Str) = some NameKind.local) (hf : (defScope st).names.lookup f = some NameKind.local) (hd : (f == ("__debug__" : Str)) = false) (hcd : (f == ("__classdict__" : Str)) = false) : FnOk P w K mg base (L2.CX P w) 1 fI fd ["self", f] (spXI K C f) := by
  refine F.ok S (fun vs H Q E h => ?_) (fun cdv A outer s H vs Q E hr h => ?_)
  · obtain ⟨a, v, rfl, _⟩ := h
    rfl
  · obtain ⟨a, v, rfl, ha, T, hno, k⟩ := h
    rw [hb]
    refine ⟨_, pss_one (ps_ost (f := f) (pe_var (i := 0) rfl (.inl hl)) (pe_var (i := 1) rfl (.inl hf) hd hcd)), ?_⟩
    exact ⟨_, rfl, _, rfl, a, C, rfl, T, hno, .inl ⟨ha, fun dx h1 h2 => k dx h1 h2⟩⟩
/-- what is known of an own error class x, at C, that keeps the field f -/
structure XCls (P : Program) (w : World) (K : PySem.W.Frag) (mg : Str → Option Value) (base : Heap) (x f : Str) (C : Addr) : Prop where
  gC : mg x = some (.ref C)
  oex : OexC K C
  xc : XcC K C
  no : PySem.W.findIn K (.ref C) f = some none
  ini : ∃ (fI : Addr) (fd : FuncData) (q : Str) (st : Stmt), PySem.W.findIn K (.ref C) "__init__" = some (some (.ref fI)) ∧ PySem.W.typeIn K (.ref fI) = some (.type "function") ∧
    FunD K "__init__" q (defArgs st) (defBody st) (defScope st) [] [] fI fd ∧ Binds K fd ["self", f] [] ∧ FnOk P w K mg base (L2.CX P w) 1 fI fd ["self", f] (spXI K C f)
end
section
variable {X : Cx} {x f : Str} {C : Addr} {e : Expr} {te : TE} {p pos pos2 : Pos} {k : Nat} {W : WX}
/-- raise x(e) -/
def tRz (C : Addr) (f : Str) (W : WX) (te : TE) : TS := fun _ σ H => te σ H fun v H1 => ∀ d H', Ex H1 H' → H1 d = none → H' d = some (.xd [(f, v)]) → W (.ref C) (some d) σ H'
/-- the same, of any lesser wish -/
def tM (te : TE) : TE := fun σ H Q' => ∃ Q : VK, te σ H Q ∧ ∀ v H1, Q v H1 → Q' v H1
theorem pe_m (he : PE X e te) : PE X e (tM te) := ⟨fun pins s σ H Q' I ⟨Q, h, hq⟩ => thn (he.run pins s σ H Q I h) fun u s1 ⟨v, H1, I1, r1, q1⟩ => ⟨v, H1, I1, r1, hq v H1 q1⟩⟩
theorem ps_rz (hc : X.calm = true) (T : XCls X.prog X.w X.K X.mg X.base x f C) (hr : Room k X.A) (hk : 2 ≤ k) (tk : Takes X W) (he : PE X e te) (hg : Gl X x) (hdb : (x == ("__debug__" : Str)) = false := by decide)
    (hs : starEach (e :: []) X.env = (false, eval e X.env) :: starEach [] X.env := by rfl) (hpl : (backTo pos (starEach [] X.env)).any (·.1) = false := by rfl) : PS X (.Raise (some (.Call (.Name x p) [e] [] pos)) none pos2) (tRz C f W te) := by
  obtain ⟨fI, fd, q, st, iC, tI, F, B, G⟩ := T.ini
  have h0 := ps_raise (pos := pos2) hc tk (pmk_oex (p := p) (pos := pos) T.oex iC tI G (hr.mono hk) B .nil passL hg T.gC (pa_cons (pe_m he) pa_nil hs) hdb hs hpl)
  refine ⟨fun pins s σ H D I h => h0.run pins s σ H D I ?_⟩
  refine ⟨_, h, fun v H1 hq => ?_⟩
  refine ⟨by show 1 ≤ 1000; decide, fun a na => ?_⟩
  refine ⟨a, v, rfl, upd_same, T.oex, T.no, fun dx h1 h2 => ⟨rfl, dx, [(f, v)], upd_same, ?_, ?_, ?_⟩⟩
  · rw [upd_ne h2, upd_same]
  · rw [upd_ne h2] at h1
    exact h1
  · rw [upd_ne h2] at h1
    refine hq dx _ (fun b o hb => ?_) h1 upd_same
    have hba : b ≠ a := ne_of_none hb na
    have hbd : b ≠ dx := ne_of_none hb h1
    rw [upd_ne hbd, del_ne hba, upd_ne hba, upd_ne hbd, upd_ne hba]
    exact hb
end
end DL

set_option Elab.async false
set_option linter.all false
set_option maxRecDepth 100000
set_option maxHeartbeats 4000000
/-! data: what a value stands for -/
namespace DL
open PySem PySem.Spec PyProof.Rows L2
mutual
/-- v stands for d; its lists and dicts stand at no place of N -/
inductive Rp (K : PySem.W.Frag) (N : Addr → Prop) (H : Hp) : V → PyData → Prop
  | non : Rp K N H .non .none
  | bl (b : Bool) : Rp K N H (.bl b) (.bool b)
  | int (i : Int) : Rp K N H (.int i) (.int i)
  | str (x : Str) : Rp K N H (.str x) (.str x)
  | lst {a : Addr} {xs : List V} {ds : List PyData} : SqL K H a xs → ¬ N a → RpA K N H xs ds → Rp K N H (.ref a) (.list ds)
  | tup {a : Addr} {xs : List V} {ds : List PyData} : SqT K H a xs → ¬ N a → RpA K N H xs ds → Rp K N H (.ref a) (.tuple ds)
  | dic {a : Addr} : H a = some (.dK []) → ¬ N a → Rp K N H (.ref a) (.dict [])
inductive RpA (K : PySem.W.Frag) (N : Addr → Prop) (H : Hp) : List V → List PyData → Prop
  | nil : RpA K N H [] []
  | cons {v : V} {vs : List V} {d : PyData} {ds : List PyData} : Rp K N H v d → RpA K N H vs ds → RpA K N H (v :: vs) (d :: ds)
end
/-- what stands at no place of N, and is no table, is kept -/
def Kp (N : Addr → Prop) (H H' : Hp) : Prop := ∀ b o, H b = some o → ¬ N b → (∀ ps, o ≠ .tbl ps) → H' b = some o
abbrev N0 : Addr → Prop := fun _ => False
abbrev N1 (p : Addr) : Addr → Prop := fun b => b = p
theorem Kp.refl (N : Addr → Prop) (H : Hp) : Kp N H H := fun _ _ h _ _ => h
theorem Kp.tr {N : Addr → Prop} {H H1 H2 : Hp} (a : Kp N H H1) (b : Kp N H1 H2) : Kp N H H2 := fun c o h n t => b c o (a c o h n t) n t
theorem Kp.of {N : Addr → Prop} {H H' : Hp} (e : Ex H H') : Kp N H H' := fun b o h _ _ => e b o h
theorem Kp.ext {N : Addr → Prop} {H H' : Hp} (e : LamX.ExtN H H') : Kp N H H' := fun b o h _ t => e b o h t
theorem Kp.pn {p : Addr} {H : Hp} {o : HO} : Kp (N1 p) H (upd H p o) := fun b u h n _ => by
  rw [upd_ne n]
  exact h
section
variable {K : PySem.W.Frag} {N N' : Addr → Prop} {H H' : Hp}
theorem kp_rd {a : Addr} {u : HO} (k : Kp N H H') (n : ¬ N a) (hu : ∀ ps, u ≠ .tbl ps) (h : Rd H a u) : Rd H' a u := by
  rcases h with h | ⟨o, h⟩
  · exact .inl (k a _ h n hu)
  · exact .inr ⟨o, k a _ h n (fun ps z => by cases z)⟩
theorem kp_l {a : Addr} {xs : List V} (k : Kp N H H') (n : ¬ N a) (h : SqL K H a xs) : SqL K H' a xs := by
  rcases h with h | h
  · exact .inl (kp_rd k n (fun ps z => by cases z) h)
  · exact .inr h
theorem kp_t {a : Addr} {xs : List V} (k : Kp N H H') (n : ¬ N a) (h : SqT K H a xs) : SqT K H' a xs := by
  rcases h with h | h
  · exact .inl (kp_rd k n (fun ps z => by cases z) h)
  · exact .inr h
mutual
theorem Rp.kp (k : Kp N H H') : ∀ {v : V} {d : PyData}, Rp K N H v d → Rp K N H' v d
  | _, _, .non => .non
  | _, _, .bl b => .bl b
  | _, _, .int i => .int i
  | _, _, .str x => .str x
  | _, _, .lst h n a => .lst (kp_l k n h) n (RpA.kp k a)
  | _, _, .tup h n a => .tup (kp_t k n h) n (RpA.kp k a)
  | _, _, .dic h n => .dic (k _ _ h n (fun ps z => by cases z)) n
theorem RpA.kp (k : Kp N H H') : ∀ {vs : List V} {ds : List PyData}, RpA K N H vs ds → RpA K N H' vs ds
  | _, _, .nil => .nil
  | _, _, .cons a b => .cons (Rp.kp k a) (RpA.kp k b)
end
mutual
theorem Rp.wk (hn : ∀ a, N' a → N a) : ∀ {v : V} {d : PyData}, Rp K N H v d → Rp K N' H v d
  | _, _, .non => .non
  | _, _, .bl b => .bl b
  | _, _, .int i => .int i
  | _, _, .str x => .str x
  | _, _, .lst h n a => .lst h (fun z => n (hn _ z)) (RpA.wk hn a)
  | _, _, .tup h n a => .tup h (fun z => n (hn _ z)) (RpA.wk hn a)
  | _, _, .dic h n => .dic h (fun z => n (hn _ z))
theorem RpA.wk (hn : ∀ a, N' a → N a) : ∀ {vs : List V} {ds : List PyData}, RpA K N H vs ds → RpA K N' H vs ds
  | _, _, .nil => .nil
  | _, _, .cons a b => .cons (Rp.wk hn a) (RpA.wk hn b)
end
theorem Rp.n0 {v : V} {d : PyData} (h : Rp K N H v d) : Rp K N0 H v d := h.wk fun _ z => z.elim
theorem Rp.ex {v : V} {d : PyData} (h : Rp K N H v d) (e : Ex H H') : Rp K N H' v d := h.kp (Kp.of e)
/-- the name of the type -/
def tyN : PyData → String
  | .none => "NoneType"
  | .bool _ => "bool"
  | .int _ => "int"
  | .str _ => "str"
  | .list _ => "list"
  | .tuple _ => "tuple"
  | .dict _ => "dict"
theorem Rp.ty {v : V} {d : PyData} (h : Rp K N H v d) : TyX K H v (.type (tyN d)) := by
  cases h with
  | non => exact .base .non
  | bl b => exact .base (.bl b)
  | int i => exact .base (.int i)
  | str x => exact .base (.str x)
  | lst h _ _ =>
    rcases h with (h | ⟨o, h⟩) | ⟨o, its, n, h, hc, _⟩
    · exact .base (.lst h)
    · exact .base (.frz h)
    · exact .kList h hc
  | tup h _ _ =>
    rcases h with (h | ⟨o, h⟩) | ⟨o, its, n, h, hc, _⟩
    · exact .base (.tup h)
    · exact .fTuple h
    · exact .kTuple h hc
  | dic h _ => exact .base (.dK h)
/-- isinstance(x, T) of such a value, T a built-in type -/
def isTyS (a b : String) : Bool := match kitB a b with
  | some r => r
  | none => false
abbrev isTy (b : String) (d : PyData) : Bool := isTyS (tyN d) b
def tyNs : List String := ["NoneType", "bool", "int", "str", "list", "tuple", "dict"]
theorem tyN_mem (d : PyData) : tyN d ∈ tyNs := by
  cases d <;> simp [tyN, tyNs]
theorem kit_any {b : String} (h : (tyNs.all fun a => kitB a b == some (isTyS a b)) = true) (d : PyData) : PySem.W.kitOne K (.type (tyN d)) (.type b) = some (isTy b d) :=
  kit_ty (eq_of_beq (List.all_eq_true.mp h _ (tyN_mem d)))
theorem kit_int (d : PyData) : PySem.W.kitOne K (.type (tyN d)) (.type "int") = some (isTy "int" d) := kit_any (by decide +kernel) d
theorem kit_bool (d : PyData) : PySem.W.kitOne K (.type (tyN d)) (.type "bool") = some (isTy "bool" d) := kit_any (by decide +kernel) d
theorem kit_list (d : PyData) : PySem.W.kitOne K (.type (tyN d)) (.type "list") = some (isTy "list" d) := kit_any (by decide +kernel) d
theorem kit_tuple (d : PyData) : PySem.W.kitOne K (.type (tyN d)) (.type "tuple") = some (isTy "tuple" d) := kit_any (by decide +kernel) d
theorem kit_str (d : PyData) : PySem.W.kitOne K (.type (tyN d)) (.type "str") = some (isTy "str" d) := kit_any (by decide +kernel) d
end
theorem isTy_int (d : PyData) : isTy "int" d = (match d with | .int _ => true | .bool _ => true | _ => false) := by
  have h : (tyNs.map fun a => isTyS a "int") = [false, true, true, false, false, false, false] := by decide +kernel
  simp only [tyNs, List.map_cons, List.map_nil, List.cons.injEq] at h
  cases d <;> simp only [isTy, tyN, h]
theorem isTy_bool (d : PyData) : isTy "bool" d = (match d with | .bool _ => true | _ => false) := by
  have h : (tyNs.map fun a => isTyS a "bool") = [false, true, false, false, false, false, false] := by decide +kernel
  simp only [tyNs, List.map_cons, List.map_nil, List.cons.injEq] at h
  cases d <;> simp only [isTy, tyN, h]
theorem isTy_list (d : PyData) : isTy "list" d = (match d with | .list _ => true | _ => false) := by
  have h : (tyNs.map fun a => isTyS a "list") = [false, false, false, false, true, false, false] := by decide +kernel
  simp only [tyNs, List.map_cons, List.map_nil, List.cons.injEq] at h
  cases d <;> simp only [isTy, tyN, h]
theorem isTy_tuple (d : PyData) : isTy "tuple" d = (match d with | .tuple _ => true | _ => false) := by
  have h : (tyNs.map fun a => isTyS a "tuple") = [false, false, false, false, false, true, false] := by decide +kernel
  simp only [tyNs, List.map_cons, List.map_nil, List.cons.injEq] at h
  cases d <;> simp only [isTy, tyN, h]
end DL

set_option Elab.async false
set_option linter.all false
set_option maxRecDepth 100000
set_option maxHeartbeats 4000000
/-! rules over data -/
namespace DL
open PySem PySem.Spec PyProof.Rows L2
def seqOf : PyData → Option (List PyData)
  | .list ds => some ds
  | .tuple ds => some ds
  | _ => none
section
variable {K : PySem.W.Frag} {N : Addr → Prop} {H : Hp}
theorem RpA.length {vs : List V} {ds : List PyData} (h : RpA K N H vs ds) : vs.length = ds.length := by
  induction ds generalizing vs with
  | nil =>
    cases h
    rfl
  | cons d ds ih =>
    cases h with
    | cons a b => exact congrArg Nat.succ (ih b)
theorem RpA.get : ∀ {vs : List V} {ds : List PyData} {i : Nat} {d : PyData}, RpA K N H vs ds → ds[i]? = some d → ∃ v, vs[i]? = some v ∧ Rp K N H v d
  | _, _, i, d, .nil, e => by simp at e
  | _, _, 0, d, .cons a b, e => by
    have e' := Option.some.inj e
    subst e'
    exact ⟨_, rfl, a⟩
  | _, _, i + 1, d, .cons a b, e => by
    have e' : _ = some d := e
    obtain ⟨v, h1, h2⟩ := RpA.get (i := i) b e'
    exact ⟨v, h1, h2⟩
theorem RpA.at : ∀ {vs : List V} {ds : List PyData} {i : Nat} {v : V}, RpA K N H vs ds → vs[i]? = some v → ∃ d, ds[i]? = some d ∧ Rp K N H v d
  | _, _, i, d, .nil, e => by simp at e
  | _, _, 0, d, .cons a b, e => by
    have e' := Option.some.inj e
    subst e'
    exact ⟨_, rfl, a⟩
  | _, _, i + 1, d, .cons a b, e => by
    have e' : _ = some d := e
    obtain ⟨v, h1, h2⟩ := RpA.at (i := i) b e'
    exact ⟨v, h1, h2⟩
theorem Rp.seq {v : V} {d : PyData} {ds : List PyData} (h : Rp K N H v d) (e : seqOf d = some ds) : ∃ a xs, v = .ref a ∧ (SqL K H a xs ∨ SqT K H a xs) ∧ ¬ N a ∧ RpA K N H xs ds := by
  cases h with
  | lst h n a =>
    have e' := Option.some.inj e
    subst e'
    exact ⟨_, _, rfl, .inl h, n, a⟩
  | tup h n a =>
    have e' := Option.some.inj e
    subst e'
    exact ⟨_, _, rfl, .inr h, n, a⟩
  | _ => cases e
theorem seq_ty (d : PyData) : (isTy "list" d || isTy "tuple" d) = (seqOf d).isSome := by
  rw [isTy_list, isTy_tuple]
  cases d <;> rfl
end
section
variable {X : Cx} {e : Expr} {te : TE}
/-- isinstance(x, (list, tuple)) -/
def tSq (K : PySem.W.Frag) (te : TE) : TE := fun σ H Q => te σ H fun v H1 => ∃ d, Rp K N0 H1 v d ∧ ∀ H2, Ex H1 H2 → Q (.bl (seqOf d).isSome) H2
theorem pe_sq {p1 p2 p3 p4 pos : Pos} {k : Nat} (he : PE X e te) (hg : Gl X "isinstance") (gl : Gl X "list") (gt : Gl X "tuple") (m1 : X.mg "isinstance" = none) (m2 : X.mg "list" = none) (m3 : X.mg "tuple" = none)
    (hs : starEach (e :: [.Tuple [.Name "list" p2, .Name "tuple" p3] k p4]) X.env = (false, eval e X.env) :: starEach [.Tuple [.Name "list" p2, .Name "tuple" p3] k p4] X.env := by rfl) (hpl : (backTo pos (starEach [.Tuple [.Name "list" p2, .Name "tuple" p3] k p4] X.env)).any (·.1) = false := by rfl) :
    PE X (.Call (.Name "isinstance" p1) [e, .Tuple [.Name "list" p2, .Name "tuple" p3] k p4] [] pos) (tSq X.K te) := by
  have h0 := pe_callB (p := p1) (pos := pos) (X := X) call_isiT hg m1 (by decide +kernel) (pa_cons (pe_m he) (pa_cons (pe_tup (pos := p4) (x1 := k) (pa_cons (pe_bltn (v := .ty "list") (pos := p2) gl m2 (by decide +kernel) rfl) (pa_cons (pe_bltn (v := .ty "tuple") (pos := p3) gt m3 (by decide +kernel) rfl) pa_nil))) pa_nil) hs) (he := hs) (hpl := hpl)
  refine ⟨fun pins s σ H Q I h => h0.run pins s σ H Q I ?_⟩
  refine ⟨_, h, fun v H1 ⟨d, hv, q⟩ => ⟨by decide, fun p hp => ?_⟩⟩
  refine ⟨v, p, [.ty "list", .ty "tuple"], .type (tyN d), [.type "list", .type "tuple"], (seqOf d).isSome, rfl, upd_same, .cons (.ty _) (.cons (.ty _) .nil), (hv.ex (ex_new hp)).ty, ?_, q _ (ex_new hp)⟩
  rw [← seq_ty]
  refine kitAny_cons (kit_list d) (fun e1 => kitAny_cons (kit_tuple d) (fun e2 => ?_) fun e2 => ?_) fun e1 => ?_
  · rw [e1, e2]
    exact kitAny_nil
  · rw [e1, e2]
    rfl
  · rw [e1]
    rfl
/-- len(x) -/
def tLn (K : PySem.W.Frag) (te : TE) : TE := fun σ H Q => te σ H fun v H1 => ∃ d ds, Rp K N0 H1 v d ∧ seqOf d = some ds ∧ Q (.int ds.length) H1
theorem pe_ln {p1 pos : Pos} (he : PE X e te) (hg : Gl X "len") (m1 : X.mg "len" = none) (hs : starEach (e :: []) X.env = (false, eval e X.env) :: starEach [] X.env := by rfl) (hpl : (backTo pos (starEach [] X.env)).any (·.1) = false := by rfl) :
    PE X (.Call (.Name "len" p1) [e] [] pos) (tLn X.K te) := by
  have h0 := pe_callB (p := p1) (pos := pos) (X := X) call_len hg m1 (by decide +kernel) (pa_cons (pe_m he) pa_nil hs) (he := hs) (hpl := hpl)
  refine ⟨fun pins s σ H Q I h => h0.run pins s σ H Q I ?_⟩
  refine ⟨_, h, fun v H1 ⟨d, ds, hv, hd, q⟩ => ?_⟩
  obtain ⟨a, xs, rfl, hx, _, ha⟩ := hv.seq hd
  refine ⟨_, _, rfl, ?_, q⟩
  rcases hx with hx | hx
  · exact .inl ⟨_, hx, ha.length.symm⟩
  · exact .inr ⟨_, hx, ha.length.symm⟩
/-- x[i], at a place that is there -/
def tAt (K : PySem.W.Frag) (te ti : TE) : TE := fun σ H Q => te σ H fun v H1 => ti σ H1 fun u H2 => ∃ (d : PyData) (ds : List PyData) (i : Nat) (z : PyData), Rp K N0 H2 v d ∧ seqOf d = some ds ∧ u = .int i ∧ ds[i]? = some z ∧ ∀ v', Rp K N0 H2 v' z → Q v' H2
theorem pe_at {ei : Expr} {ti : TE} {pos : Pos} (he : PE X e te) (hi : PE X ei ti) (hs : PlainIx ei) : PE X (.Subscript e ei pos) (tAt X.K te ti) := by
  have h0 := pe_ix (pos := pos) ix_seq (pe_m he) (pe_m hi) hs
  refine ⟨fun pins s σ H Q I h => h0.run pins s σ H Q I ?_⟩
  refine ⟨_, h, fun v H1 h2 => ⟨_, h2, fun u H2 ⟨d, ds, i, z, hv, hd, hu, hz, q⟩ => ?_⟩⟩
  obtain ⟨a, xs, rfl, hx, _, ha⟩ := hv.seq hd
  obtain ⟨v', hv', rv⟩ := ha.get hz
  subst hu
  rcases hx with hx | hx
  · exact .inl ⟨_, _, _, _, rfl, rfl, hx, atI_nat hv', q v' rv⟩
  · exact .inr (.inl ⟨_, _, _, _, rfl, rfl, hx, atI_nat hv', q v' rv⟩)
end
section
variable {K : PySem.W.Frag} {σ : L2.St} {H : Hp} {te ta tb ti : TE} {t : TA} {v : V} {vs : List V} {i j : Int}
/-- an argument list's values, the heap as it was -/
def VA (t : TA) (σ : L2.St) (H : Hp) (vs : List V) : Prop := ∀ Q : List V → Hp → Prop, Q vs H → t σ H Q
theorem va_nil : VA tNil σ H [] := fun _ q => q
theorem va_cons (h : Val te σ H v) (r : VA t σ H vs) : VA (tCons te t) σ H (v :: vs) := fun Q q => h _ (r _ q)
theorem va1 {v : V} (h : Val te σ H v) : VA (tCons te tNil) σ H [v] := va_cons h va_nil
theorem va2 {v u : V} (h : Val ta σ H v) (h2 : Val tb σ H u) : VA (tCons ta (tCons tb tNil)) σ H [v, u] := va_cons h (va1 h2)
theorem vl_I0 {g : Int → Int → V} (ha : Val ta σ H (.int i)) (hb : Val tb σ H (.int j)) : Val (tOp (rI0 g) ta tb) σ H (g i j) := val_op ha hb fun Q q => ⟨i, j, rfl, rfl, q⟩
theorem vl_I {C : Int → Int → Prop} {g : Int → Int → V} (ha : Val ta σ H (.int i)) (hb : Val tb σ H (.int j)) (hc : C i j) : Val (tOp (rI C g) ta tb) σ H (g i j) := val_op ha hb fun Q q => ⟨i, j, rfl, rfl, hc, q⟩
theorem vl_U {g : Int → V} (ha : Val ta σ H (.int i)) : Val (tUn (rU g) ta) σ H (g i) := fun Q q => ha _ ⟨i, rfl, q⟩
theorem vl_at {d z : PyData} {ds : List PyData} {n : Nat} {u : V} (ha : Val ta σ H v) (hi : Val ti σ H (.int n)) (r : Rp K N0 H v d) (hs : seqOf d = some ds) (hz : ds[n]? = some z) (hu : ∀ v', Rp K N0 H v' z → v' = u) : Val (tAt K ta ti) σ H u :=
  fun Q q => ha _ (hi _ ⟨d, ds, n, z, r, hs, rfl, hz, fun v' r' => by rw [hu v' r']; exact q⟩)
theorem rp_int {N : Addr → Prop} {v : V} {i : Int} (h : Rp K N H v (.int i)) : v = .int i := by
  cases h
  rfl
end
section
variable {σ : L2.St} {H : Hp} {t : TA} {vs : List V} {sp : Sp} {E : XK} {D : Ends} {te : TE} {v : V}
theorem rt_call (h : VA t σ H vs) (k : sp vs H D.rt E) : tRet (tCall sp [] E t) D σ H := h _ (by rw [List.append_nil]; exact k)
theorem rt_val (h : Val te σ H v) (k : D.rt v H) : tRet te D σ H := h _ k
theorem te_call {Q : VK} (h : VA t σ H vs) (k : sp vs H Q E) : tCall sp [] E t σ H Q := h _ (by rw [List.append_nil]; exact k)
theorem sq_par {i j : Nat} {ta : TA} {u : TS} (h : ta σ H fun vs H1 => ∃ v w, vs = [v, w] ∧ u D ((σ.set i (some v)).set j (some w)) H1) : tSeq (tPar i j ta) u D σ H := h
theorem sq_set {i : Nat} {u : TS} (h : te σ H fun v H1 => u D (σ.set i (some v)) H1) : tSeq (tAsg te (gName i)) u D σ H := h
theorem sq_val {i : Nat} {u : TS} (hv : Val te σ H v) (h : u D (σ.set i (some v)) H) : tSeq (tAsg te (gName i)) u D σ H := hv _ h
theorem if_ans {c : TT} {t u : TS} {b : Bool} (h : Ans c σ H b) (k : if b = true then t D σ H else u D σ H) : tIfS c t u D σ H := h _ k
theorem sq_if {c : TT} {t u : TS} {r : TS} {b : Bool} (h : Ans c σ H b) (k : if b = true then t { D with nx := r D } σ H else u { D with nx := r D } σ H) : tSeq (tIfS c t u) r D σ H := h _ k
end
end DL

set_option Elab.async false
set_option linter.all false
set_option maxRecDepth 100000
set_option maxHeartbeats 4000000
/-! the law's pen: cells, the next one's index, what is left of a great one -/
namespace DL
open PySem PySem.Spec PyProof.Rows L2
/-- the pen at pn, its cells at c0 -/
structure Pen (H : Hp) (pn c0 : Addr) (cells : List Int) (at_ left : Int) : Prop where
  p : H pn = some (.lst [.ref c0, .int at_, .int left])
  c : H c0 = some (.lst (cells.map V.int))
  a0 : 0 ≤ at_
  a1 : at_ ≤ 100000
  l0 : 0 ≤ left
  len : cells.length ≤ 63
theorem Pen.ne {H : Hp} {pn c0 : Addr} {cells : List Int} {a l : Int} (p : Pen H pn c0 cells a l) : c0 ≠ pn := fun z => by
  have h1 := p.p
  have h2 := p.c
  rw [z, h1] at h2
  have h3 := HO.lst.inj (Option.some.inj h2)
  cases cells with
  | nil => cases h3
  | cons x r =>
    rw [List.map_cons] at h3
    injection h3 with h4 h5
    cases h4
theorem Pen.ex {H H' : Hp} {pn c0 : Addr} {cells : List Int} {a l : Int} (p : Pen H pn c0 cells a l) (e : Ex H H') : Pen H' pn c0 cells a l := ⟨e _ _ p.p, e _ _ p.c, p.a0, p.a1, p.l0, p.len⟩
/-- all but what stands at pn is kept -/
def ExB (pn : Addr) (H H' : Hp) : Prop := ∀ b o, b ≠ pn → H b = some o → H' b = some o
theorem ExB.refl (pn : Addr) (H : Hp) : ExB pn H H := fun _ _ _ h => h
theorem ExB.tr {pn : Addr} {H H1 H2 : Hp} (a : ExB pn H H1) (b : ExB pn H1 H2) : ExB pn H H2 := fun c o n h => b c o n (a c o n h)
theorem ExB.of {pn : Addr} {H H' : Hp} (e : Ex H H') : ExB pn H H' := fun b o _ h => e b o h
theorem ExB.kp {pn : Addr} {H H' : Hp} (e : ExB pn H H') : Kp (N1 pn) H H' := fun b o h n _ => e b o n h
theorem ExB.upd {pn : Addr} {H : Hp} {o : HO} : ExB pn H (upd H pn o) := fun b u n h => by
  rw [upd_ne n]
  exact h
theorem Pen.exB {H H' : Hp} {pn c0 : Addr} {cells : List Int} {a l : Int} {a' l' : Int} (p : Pen H pn c0 cells a l) (e : ExB pn H H') (h : H' pn = some (.lst [.ref c0, .int a', .int l'])) (h1 : 0 ≤ a') (h2 : a' ≤ 100000) (h3 : 0 ≤ l') : Pen H' pn c0 cells a' l' := ⟨h, e _ _ p.ne p.c, h1, h2, h3, p.len⟩
/-- a draw's end: a number below many, the pen somewhat further -/
def DrawQ (H : Hp) (Q : VK) (pn c0 : Addr) (cells : List Int) (a many : Int) : Prop := ∀ (d a' l' : Int) (H' : Hp), 0 ≤ d → d < many → a ≤ a' → a' ≤ a + 1 → ExB pn H H' → Pen H' pn c0 cells a' l' → Q (.int d) H'
def spDraw : Sp := fun vs H Q _ => ∃ (pn c0 : Addr) (cells : List Int) (a l many : Int), vs = [.ref pn, .int many] ∧ Pen H pn c0 cells a l ∧ a < 100000 ∧ 0 < many ∧ many.natAbs < 2 ^ 8000 ∧ DrawQ H Q pn c0 cells a many
theorem ints_shaped (ns : List Int) : SeqAt.shaped (.list (ns.map PyData.int)) = true := by
  have h1 : PyData.canLayAll0 (ns.map PyData.int) = true := by
    induction ns with
    | nil => simp [PyData.canLayAll0]
    | cons n r ih => simp [PyData.canLayAll0, PyData.canLay0, ih]
  have h2 : PyData.depthAll (ns.map PyData.int) ≤ 1 := by
    induction ns with
    | nil => simp [PyData.depthAll]
    | cons n r ih =>
      simp only [List.map_cons, PyData.depthAll, PyData.depth]
      simp only [List.map_cons, PyData.canLayAll0, Bool.and_eq_true] at h1
      have := ih h1.2
      omega
  show (PyData.canLay0 (.list (ns.map PyData.int)) && decide (PyData.depth (.list (ns.map PyData.int)) ≤ 64)) = true
  rw [Bool.and_eq_true]
  refine ⟨by rw [PyData.canLay0]; exact h1, decide_eq_true ?_⟩
  rw [PyData.depth]
  omega
theorem dp_ints {K : PySem.W.Frag} {H : Hp} (ns : List Int) : DpAll K H (ns.map V.int) (ns.map PyData.int) := by
  induction ns with
  | nil => exact .nil
  | cons n r ih => exact .cons (.int n) ih
theorem eqv_nil (ns : List Int) : PyData.eqv (.list (ns.map PyData.int)) (.list []) = ns.isEmpty := by
  cases ns with
  | nil => simp [PyData.eqv, PyData.eqvAll]
  | cons n r => simp [PyData.eqv, PyData.eqvAll]
section
variable {K : PySem.W.Frag} {σ : L2.St} {H : Hp} {te ta tb ti : TE} {v u : V} {i j : Int}
theorem vl_ixL {p : Addr} {xs : List V} (ha : Val ta σ H (.ref p)) (hi : Val ti σ H (.int i)) (h : SqL K H p xs) (hz : atI xs i = some u) : Val (tOp (rIxL K) ta ti) σ H u := val_op ha hi fun Q q => ⟨p, xs, i, u, rfl, rfl, h, hz, q⟩
theorem vl_int1 (ha : Val ta σ H (.int i)) : Val (tCB (fun xs H Q => (∃ i, xs = [V.int i] ∧ Q (V.int i) H) ∨ ∃ k, xs = [V.bl k] ∧ Q (V.int (if k then 1 else 0)) H) (tCons ta tNil)) σ H (.int i) := fun Q q => ha _ (.inl ⟨i, rfl, q⟩)
theorem vl_intB {b : Bool} (ha : Val ta σ H (.bl b)) : Val (tCB (fun xs H Q => (∃ i, xs = [V.int i] ∧ Q (V.int i) H) ∨ ∃ k, xs = [V.bl k] ∧ Q (V.int (if k then 1 else 0)) H) (tCons ta tNil)) σ H (.int (if b then 1 else 0)) := fun Q q => ha _ (.inr ⟨b, rfl, q⟩)
theorem vl_abs (ha : Val ta σ H (.int i)) : Val (tCB (fun xs H Q => ∃ i, xs = [V.int i] ∧ Q (V.int (if i < 0 then -i else i)) H) (tCons ta tNil)) σ H (.int (if i < 0 then -i else i)) := fun Q q => ha _ ⟨i, rfl, q⟩
theorem vl_lenL {p : Addr} {xs : List V} (ha : Val ta σ H (.ref p)) (h : SqL K H p xs) : Val (tCB (fun vs H Q => ∃ x n, vs = [x] ∧ LenV K x H n ∧ Q (.int n) H) (tCons ta tNil)) σ H (.int xs.length) := fun Q q => ha _ ⟨_, _, rfl, .inl ⟨xs, h, rfl⟩, q⟩
theorem vl_lenT {p : Addr} {xs : List V} (ha : Val ta σ H (.ref p)) (h : SqT K H p xs) : Val (tCB (fun vs H Q => ∃ x n, vs = [x] ∧ LenV K x H n ∧ Q (.int n) H) (tCons ta tNil)) σ H (.int xs.length) := fun Q q => ha _ ⟨_, _, rfl, .inr ⟨xs, h, rfl⟩, q⟩
theorem vl_add (ha : Val ta σ H (.int i)) (hb : Val tb σ H (.int j)) : Val (tOp (rI0 fun i j => .int (i + j)) ta tb) σ H (.int (i + j)) := vl_I0 ha hb
theorem vl_sub (ha : Val ta σ H (.int i)) (hb : Val tb σ H (.int j)) : Val (tOp (rI0 fun i j => .int (i - j)) ta tb) σ H (.int (i - j)) := vl_I0 ha hb
theorem vl_mul (ha : Val ta σ H (.int i)) (hb : Val tb σ H (.int j)) (h : CMul i j) : Val (tOp (rI CMul fun i j => .int (i * j)) ta tb) σ H (.int (i * j)) := vl_I ha hb h
theorem vl_mulW (ha : Val ta σ H (.int i)) (hb : Val tb σ H (.int j)) (h : CMulW i j) : Val (tOp (rI CMulW fun i j => .int (i * j)) ta tb) σ H (.int (i * j)) := vl_I ha hb h
theorem vl_mod (ha : Val ta σ H (.int i)) (hb : Val tb σ H (.int j)) (h : 0 < j) : Val (tOp (rI (fun _ j => 0 < j) fun i j => .int (i % j)) ta tb) σ H (.int (i % j)) := vl_I ha hb h
theorem vl_pow (ha : Val ta σ H (.int i)) (hb : Val tb σ H (.int j)) (h : CPow i j) : Val (tOp (rI CPow fun i j => .int (i ^ j.toNat)) ta tb) σ H (.int (i ^ j.toNat)) := vl_I ha hb h
theorem vl_fdiv (ha : Val ta σ H (.int i)) (hb : Val tb σ H (.int j)) (h : L2.CDiv i j) : Val (tOp (rI L2.CDiv fun i j => .int (i / j)) ta tb) σ H (.int (i / j)) := vl_I ha hb h
theorem vl_fdivW (ha : Val ta σ H (.int i)) (hb : Val tb σ H (.int j)) (h : CDivW i j) : Val (tOp (rI CDivW fun i j => .int (i / j)) ta tb) σ H (.int (i / j)) := vl_I ha hb h
theorem vl_lt (ha : Val ta σ H (.int i)) (hb : Val tb σ H (.int j)) : Val (tOp (rI0 fun i j => .bl (decide (i < j))) ta tb) σ H (.bl (decide (i < j))) := vl_I0 ha hb
theorem vl_neg (ha : Val ta σ H (.int i)) : Val (tUn (rU fun i => .int (-i)) ta) σ H (.int (-i)) := vl_U ha
theorem an_I {g : Int → Int → Bool} (ha : Val ta σ H (.int i)) (hb : Val tb σ H (.int j)) : Ans (tTest (tOp (rI0 fun i j => .bl (g i j)) ta tb)) σ H (g i j) := ans_cmp ha hb fun Q q => ⟨i, j, rfl, rfl, q⟩
end
section
variable {σ : L2.St} {H : Hp} {D : Ends} {te to ti : TE} {v : V} {u t : TS}
/-- o[k] = e -/
theorem sq_store {p : Addr} {xs : List V} {k : Int} (j : Nat) (hv : Val te σ H v) (ho : Val to σ H (.ref p)) (hi : Val ti σ H (.int k)) (hp : H p = some (.lst xs)) (hx : ixN xs.length k = some j) (h : u D σ (upd H p (.lst (xs.set j v)))) : tSeq (tAsg te (gSub to ti rSetL)) u D σ H :=
  hv _ (ho _ (hi _ ⟨p, xs, k, j, rfl, rfl, hp, hx, h⟩))
theorem sq_cut (M : L2.St → Hp → Prop) (h : t { D with nx := M } σ H) (k : ∀ σ' H', M σ' H' → u D σ' H') : Evl.tCut t u D σ H := ⟨M, h, k⟩
end
theorem cm {i j : Int} (h1 : -(2 ^ 64) < i) (h2 : i < 2 ^ 64) : CMul i j := .inl ⟨h1, h2⟩
theorem cpw {i j : Int} (h1 : 0 ≤ j) (h2 : j ≤ 1000000) (h3 : i.natAbs < 2 ^ 64) : CPow i j := ⟨h1, h2, h3⟩
theorem cdv {i j : Int} (h1 : 0 < j) (h2 : j < 1073741824) : L2.CDiv i j := ⟨h1, h2⟩
theorem pr_lt {x y a b c : Int} (h0 : 0 ≤ x) (h1 : 0 ≤ y) (hx : x ≤ a) (hy : y ≤ b) (h : a * b ≤ c) : x * y ≤ c ∧ 0 ≤ x * y :=
  ⟨Int.le_trans (Int.mul_le_mul hx hy h1 (Int.le_trans h0 hx)) h, Int.mul_nonneg h0 h1⟩
end DL

set_option Elab.async false
set_option linter.all false
set_option maxRecDepth 100000
set_option maxHeartbeats 4000000
/-! a lambda handed to a def that calls it within a try: what is raised is told with that def's slots at the call -/
namespace DL
open PySem PySem.Spec PySem.Calls PyProof.Rows L2 LamX
open PySem.W (tabObj)
section
variable {X : Cx} {pins : List (Addr × Obj)} {σ : L2.St} {H HZ : Hp} {s s1 : Shared}
theorem actN {CXg : CXT} {Eg : XK} {Ng : List Str} {qg : Str} {sg : Scope} {g f c' : Addr} {cdg pm ctv : Value} {params : Arguments} {body : Expr} {scope : Scope} {k i : Nat} {a : Str} {pn : List (Addr × Obj)} {xe : Value → Shared → Prop} {W : WX} {E : XK} {tb : TE} {p1 p2 : Pos}
    (I : Inv X pins σ H s) (L : LamS X.env.scope scope) (hf : s.heap.get? f = some (PySem.W.kla_obj "<lambda>" (X.env.qual ++ "<lambda>") params body scope (cloFrom X.env.cells scope.names []) pm c' ctv)) (hfn : H f = none) (hfr : f ∉ frs X.stack)
    (hbind : bindArgs (PySem.W.kla_fn "<lambda>" (X.env.qual ++ "<lambda>") params body scope (cloFrom X.env.cells scope.names []) pm (.ref c') ctv) ⟨[], []⟩ = pure [])
    (tk : Takes ((cxOf CXg X.prog X.w X.K X.mg X.base Ng qg sg g cdg X.A X.stack s H Eg).tr pn xe) W) (hr : Room (k + 1) (X.A.deeper (envOfC qg sg s.heap.objs.size g cdg)))
    (hbody : ∀ (A : Around) (outer : List Env) (s : Shared) (H : Hp), Room k (A.deeper (lamEnv X scope s.heap.objs.size f c')) → PE (lamCx X A outer s H E scope f c') body tb)
    (hN : Ng[i]? = some a) (hv : Vis sg a) (hd : (a == ("__debug__" : Str)) = false := by decide) (hcd : (a == ("__classdict__" : Str)) = false := by decide) :
    PE ((cxOf CXg X.prog X.w X.K X.mg X.base Ng qg sg g cdg X.A X.stack s H Eg).tr pn xe) (.Call (.Name a p1) [] [] p2)
      (fun σZ HZ Q => σZ[i]? = some (some (.ref f)) ∧ HZ c' = some (CodeO c' (X.env.qual ++ "<lambda>")) ∧ (∀ cls d H', E cls d H' → W cls d σZ H') ∧ tb σ HZ Q) := by
  refine ⟨fun pinsZ sZ σZ HZ Q IZ h => ?_⟩
  obtain ⟨hs, hc, hW, ht⟩ := h
  refine wpAny_Call_Name_kw (thn ((pe_var (pos := p1) (i := i) hN hv hd hcd).run pinsZ sZ σZ HZ (fun v H1 => v = .ref f ∧ H1 = HZ) IZ ⟨.ref f, hs, rfl, rfl⟩) fun u s1 ⟨v, H1, I1, r1, q1⟩ => ?_)
  obtain ⟨ev, eH⟩ := q1
  subst ev
  rw [eH] at I1
  obtain rfl : u = Value.ref f := r1
  have of1 : s1.heap.get? f = some (PySem.W.kla_obj "<lambda>" (X.env.qual ++ "<lambda>") params body scope (cloFrom X.env.cells scope.names []) pm c' ctv) := I1.base.keep f _ hf hfn hfr (fun z => nomatch (show f ∈ ([] : List Addr) from z))
  refine PySem.W.callWith_F0 ⟨_, _, _, _, of1⟩ ?_
  have un : Un (frs X.stack) [] H HZ s.heap s1.heap := I1.base
  obtain ⟨⟨oc, vs, t, hoc, hdc, hvc⟩, _, _⟩ := I1.hok c' _ hc
  have rc : codeAny (model X.prog X.w) (X.A.deeper (envOfC qg sg s.heap.objs.size g cdg)) (.call (.ref f) ⟨[], []⟩) (CR (L2.CX X.prog X.w) (envOfC qg sg s.heap.objs.size g cdg :: X.stack) X.prog X.w HZ s1 Q E) s1 := by
    refine PySem.W.kla_callFunE hr.depth of1 rfl L.co L.gen rfl ⟨c', oc, vs, t, rfl, hoc, hdc, hvc⟩ ?_
    rw [hbind]
    refine wpAny_pure (wpAny_newFunctionEnv (fun y hy => (L.own y hy).2) (fun y hy => absurd hy (by simp)) (fun h₁ hns hsb => ⟨I1.nolimit.fresh _ hsb, ?_⟩) L.kind)
    show codeAny _ _ (.expr body (lamEnv X scope s1.heap.objs.size f c')) _ _
    have kp : ∀ b o, s1.heap.get? b = some o → h₁.get? b = some o := fun b o e => hsb.extBut b o (Nat.ne_of_lt (Heap.lt_size e)) (Heap.get?_push_of_some _ e)
    have J : Inv (lamCx X (X.A.deeper (envOfC qg sg s.heap.objs.size g cdg)) (envOfC qg sg s.heap.objs.size g cdg :: X.stack) s1 HZ E scope f c') [] σ HZ { s1 with heap := h₁, toks := s1.toks + ([] : List (Str × Value)).length } :=
      lam_start2 I L I1.env0 hr.hd un hns kp
    refine PySem.W.kla_codeExpr (wpAny_mono ((hbody _ _ s1 HZ (hr.deeper _)).run [] _ _ HZ Q J ht) (fun v s' hq => ?_) fun e s' hq => hq)
    obtain ⟨w', H', J', rv, q⟩ := hq
    exact ⟨w', H', J'.os, J'.bare, J'.base, J'.hok, rv, q⟩
  refine wpAny_call (codeAny_mono rc fun r s' hq => ?_)
  cases r with
  | error e => exact tk e s' (XE.of_call I1 hW hq)
  | ok fl =>
    cases fl with
    | ret u => exact I1.after hq
    | next => exact False.elim hq
    | brk => exact False.elim hq
    | cont => exact False.elim hq
theorem actW {CXg : CXT} {Eg : XK} {Ng : List Str} {qg : Str} {sg : Scope} {g f c' tp : Addr} {tk0 : Tok} {iv : Int} {cdg pm ctv : Value} {params : Arguments} {body : Expr} {scope : Scope} {p : Str} {k i : Nat} {a : Str} {pn : List (Addr × Obj)} {xe : Value → Shared → Prop} {W : WX} {E : XK} {tb : TE} {p1 p2 : Pos}
    (I : Inv X pins σ H s) (L : LamSD X.env.scope scope p) (hpN : p ∉ X.N) (hf : s.heap.get? f = some (objD (X.env.qual ++ "<lambda>") params body scope (cloFrom X.env.cells scope.names []) (.ref tp) pm c' ctv)) (hfn : H f = none) (hfr : f ∉ frs X.stack)
    (htp : s.heap.get? tp = some (tupD iv tk0)) (htn : H tp = none) (htr : tp ∉ frs X.stack)
    (hbind : ∀ (v : Value), ∃ k, bindArgs (fnD (X.env.qual ++ "<lambda>") params body scope (cloFrom X.env.cells scope.names []) (.ref tp) pm (.ref c') ctv) ⟨[], []⟩ = seqItems? (.ref tp) >>= k ∧ k (some #[v]) = pure [(p, v)])
    (tk : Takes ((cxOf CXg X.prog X.w X.K X.mg X.base Ng qg sg g cdg X.A X.stack s H Eg).tr pn xe) W) (hr : Room (k + 1) (X.A.deeper (envOfC qg sg s.heap.objs.size g cdg)))
    (hbody : ∀ (A : Around) (outer : List Env) (s : Shared) (H : Hp), Room k (A.deeper (lamEnv X scope s.heap.objs.size f c')) → PE (lamCx X A outer s H E scope f c') body tb)
    (hN : Ng[i]? = some a) (hv : Vis sg a) (hd : (a == ("__debug__" : Str)) = false := by decide) (hcd : (a == ("__classdict__" : Str)) = false := by decide) :
    PE ((cxOf CXg X.prog X.w X.K X.mg X.base Ng qg sg g cdg X.A X.stack s H Eg).tr pn xe) (.Call (.Name a p1) [] [] p2)
      (fun σZ HZ Q => σZ[i]? = some (some (.ref f)) ∧ HZ c' = some (CodeO c' (X.env.qual ++ "<lambda>")) ∧ (∀ cls d H', E cls d H' → W cls d σZ H') ∧ tb σ HZ Q) := by
  refine ⟨fun pinsZ sZ σZ HZ Q IZ h => ?_⟩
  obtain ⟨hs, hc, hW, ht⟩ := h
  refine wpAny_Call_Name_kw (thn ((pe_var (pos := p1) (i := i) hN hv hd hcd).run pinsZ sZ σZ HZ (fun v H1 => v = .ref f ∧ H1 = HZ) IZ ⟨.ref f, hs, rfl, rfl⟩) fun u s1 ⟨v, H1, I1, r1, q1⟩ => ?_)
  obtain ⟨ev, eH⟩ := q1
  subst ev
  rw [eH] at I1
  obtain rfl : u = Value.ref f := r1
  have of1 : s1.heap.get? f = some (objD (X.env.qual ++ "<lambda>") params body scope (cloFrom X.env.cells scope.names []) (.ref tp) pm c' ctv) := I1.base.keep f _ hf hfn hfr (fun z => nomatch (show f ∈ ([] : List Addr) from z))
  have ot1 : s1.heap.get? tp = some (tupD iv tk0) := I1.base.keep tp _ htp htn htr (fun z => nomatch (show tp ∈ ([] : List Addr) from z))
  refine PySem.W.callWith_F0 ⟨_, _, _, _, of1⟩ ?_
  have un : Un (frs X.stack) [] H HZ s.heap s1.heap := I1.base
  obtain ⟨⟨oc, vs, t, hoc, hdc, hvc⟩, _, _⟩ := I1.hok c' _ hc
  have rc : codeAny (model X.prog X.w) (X.A.deeper (envOfC qg sg s.heap.objs.size g cdg)) (.call (.ref f) ⟨[], []⟩) (CR (L2.CX X.prog X.w) (envOfC qg sg s.heap.objs.size g cdg :: X.stack) X.prog X.w HZ s1 Q E) s1 := by
    refine PySem.W.kla_callFunE hr.depth of1 rfl L.co L.gen rfl ⟨c', oc, vs, t, rfl, hoc, hdc, hvc⟩ ?_
    obtain ⟨kk, b1, b2⟩ := hbind (.int iv tk0)
    rw [b1]
    refine wpAny_bind (wpAny_seqItems ot1 rfl ?_)
    rw [b2]
    refine wpAny_pure (wpAny_newFunctionEnv (fun y hy => (L.own y hy).2) (fun y hy => ?_) (fun h₁ hns hsb => ⟨I1.nolimit.fresh _ hsb, ?_⟩) L.kind)
    · have ey : y = (p, Value.int iv tk0) := List.mem_singleton.mp hy
      rw [ey]
      exact L.par
    show codeAny _ _ (.expr body (lamEnv X scope s1.heap.objs.size f c')) _ _
    have kp : ∀ b o, s1.heap.get? b = some o → h₁.get? b = some o := fun b o e => hsb.extBut b o (Nat.ne_of_lt (Heap.lt_size e)) (Heap.get?_push_of_some _ e)
    have J : Inv (lamCx X (X.A.deeper (envOfC qg sg s.heap.objs.size g cdg)) (envOfC qg sg s.heap.objs.size g cdg :: X.stack) s1 HZ E scope f c') [] σ HZ { s1 with heap := h₁, toks := s1.toks + ([(p, Value.int iv tk0)] : List (Str × Value)).length } :=
      startD I L hpN I1.env0 hr.hd un hns kp
    refine PySem.W.kla_codeExpr (wpAny_mono ((hbody _ _ s1 HZ (hr.deeper _)).run [] _ _ HZ Q J ht) (fun v s' hq => ?_) fun e s' hq => hq)
    obtain ⟨w', H', J', rv, q⟩ := hq
    exact ⟨w', H', J'.os, J'.bare, J'.base, J'.hok, rv, q⟩
  refine wpAny_call (codeAny_mono rc fun r s' hq => ?_)
  cases r with
  | error e => exact tk e s' (XE.of_call I1 hW hq)
  | ok fl =>
    cases fl with
    | ret u => exact I1.after hq
    | next => exact False.elim hq
    | brk => exact False.elim hq
    | cont => exact False.elim hq
end
/-- the def that calls what it got; W, its wish, is asked for at the slots of the call alone -/
def GivesW (X : Cx) (Ng : List Str) (x : Str) (sg : Scope) (g : Addr) (cdg : Value) (bg : List Stmt) (a : Str) (q : Str) (TT : (XK → Hp → VK → Prop) → Hp → VK → Prop) : Prop :=
  ∀ (f c' : Addr) (s : Shared) (H : Hp) (Q : VK) (tl : XK → Hp → VK → Prop),
    (∀ (W : WX) (pn : List (Addr × Obj)) (xe : Value → Shared → Prop) (E : XK) (p1 p2 : Pos), Takes ((cxOf C8.CX0 X.prog X.w X.K X.mg X.base Ng x sg g cdg X.A X.stack s H C8.E0).tr pn xe) W →
      PE ((cxOf C8.CX0 X.prog X.w X.K X.mg X.base Ng x sg g cdg X.A X.stack s H C8.E0).tr pn xe) (.Call (.Name a p1) [] [] p2) (fun σZ HZ Q => σZ[0]? = some (some (.ref f)) ∧ HZ c' = some (CodeO c' q) ∧ (∀ cls d H', E cls d H' → W cls d σZ H') ∧ tl E HZ Q)) →
    H c' = some (CodeO c' q) → TT tl H Q →
    ∃ t, PSs (cxOf C8.CX0 X.prog X.w X.K X.mg X.base Ng x sg g cdg X.A X.stack s H C8.E0).nox bg t ∧ t { nx := fun _ H' => Q .non H', rt := Q } (L2.start Ng [.ref f]) H
section
variable {X : Cx}
theorem pe_lamN {T : List (Addr × Str)} {TT : (XK → Hp → VK → Prop) → Hp → VK → Prop} {x a : Str} {g c P : Addr} {k : Nat} {pg : Arguments} {bg : List Stmt} {sg : Scope} {dV kV doc pm cdv ct oc : Value} {an od : Option Addr} {osl : Array (Option Value)} {Ng : List Str}
    {params : Arguments} {body : Expr} {scope : Scope} {t : XK → TE} {p lpos pos : Pos} (hg : Gl X x) (hm : X.mg x = some (.ref g)) (hk : PySem.W.keepIn X.K (.ref g) = true)
    (lk : X.K.lookup g = some ⟨oc, od, .func (PySem.W.fnOf x x pg bg sg dV kV doc pm an cdv ct), osl⟩) (hcg : PySem.W.codeIn X.K cdv x = true) (hb : L2.Binds X.K (PySem.W.fnOf x x pg bg sg dV kV doc pm an cdv ct) [a] []) (Sg : FnScope Ng [a] sg) (hNg : Ng[0]? = some a) (hva : Vis sg a)
    (hG : GivesW X Ng x sg g cdv bg a (X.env.qual ++ "<lambda>") TT)
    (TB : TabB X.base X.mg c P) (hcode : X.env.code = .ref c) (hmT : (P, X.env.qual ++ "<lambda>") ∈ T) (hu : ∀ p ∈ T, p.1 = P → p.2 = X.env.qual ++ "<lambda>") (hr : Room (k + 2) X.A) (L : LamS X.env.scope scope) (hdef : defaultsOf params X.env = ([], []))
    (hbind : ∀ (q : Str) (cl : List (Str × Addr)) (pm cv ctv : Value), bindArgs (PySem.W.kla_fn "<lambda>" q params body scope cl pm cv ctv) ⟨[], []⟩ = pure [])
    (hbody : ∀ (A : Around) (outer : List Env) (s : Shared) (H : Hp) (E : XK) (f c' : Addr), Room k (A.deeper (lamEnv X scope s.heap.objs.size f c')) → PE (lamCx X A outer s H E scope f c') body (t E))
    (hdb : (x == ("__debug__" : Str)) = false := by decide) (hd : (a == ("__debug__" : Str)) = false := by decide) (hcd : (a == ("__classdict__" : Str)) = false := by decide) :
    PE X (.Call (.Name x p) [.Lambda params body scope lpos] [] pos) (tLam T TT t) := by
  refine ⟨fun pins s σ H Q I h => ?_⟩
  obtain ⟨hT, h⟩ := h
  refine wpAny_Call_Name_kw (ld_glob I hg hm ?_ hdb)
  refine PySem.W.callWith_K (h₀ := X.base) I.ok.mod.kin hk ?_ (by rfl) (by rfl)
  show wpAny _ _ (spliced ((false, eval (.Lambda params body scope lpos) X.env) :: backTo pos (starEach [] X.env))) _ _ s
  refine Calls.spliced_cons (lam_make2 I TB hcode hmT hu hT hdef (L.has I.ok) fun f c' pm' ctv H1 s' I1 eN T1 hf hfn hfr hco => ?_)
  refine Calls.spliced_nil ⟨I1.kIn, ?_⟩
  have rc : codeAny (model X.prog X.w) X.A (.call (.ref g) ⟨[.ref f], []⟩) (CR C8.CX0 X.stack X.prog X.w H1 s' Q C8.E0) s' := by
    refine run_ofS (N := Ng) (ps := [a]) (us := [.ref f]) (vs := [.ref f]) lk hcg Sg hr I1.env0 (hb s' [.ref f] I1.kIn rfl) (.cons rfl .nil) rfl fun hr' => ?_
    obtain ⟨t', ht', hq'⟩ := hG f c' s' H1 Q (fun E H' Q' => t E σ H' Q') (fun W pn xe E p1 p2 tk => actN (i := 0) I1 L hf hfn hfr (hbind _ _ _ _ _) tk hr' (fun A outer s H hr2 => hbody A outer s H E f c' hr2) hNg hva hd hcd) hco (h H1 eN T1)
    exact ⟨t', ht'.nox, hq'⟩
  refine wpAny_call (codeAny_mono rc fun r s2 hq => ?_)
  cases r with
  | error e => exact (show False from hq).elim
  | ok fl =>
    cases fl with
    | ret u => exact I1.after hq
    | next => exact False.elim hq
    | brk => exact False.elim hq
    | cont => exact False.elim hq
theorem pe_lamW {T : List (Addr × Str)} {TT : (XK → Hp → VK → Prop) → Hp → VK → Prop} {x a kp : Str} {g c P : Addr} {k : Nat} {pg : Arguments} {bg : List Stmt} {sg : Scope} {dV kV doc pm cdv ct oc : Value} {an od : Option Addr} {osl : Array (Option Value)} {Ng : List Str}
    {params : Arguments} {body : Expr} {scope : Scope} {t : XK → TE} {p lpos pos : Pos} {iv : Int} {ij : Nat} {ip : Pos} (hg : Gl X x) (hm : X.mg x = some (.ref g)) (hk : PySem.W.keepIn X.K (.ref g) = true)
    (lk : X.K.lookup g = some ⟨oc, od, .func (PySem.W.fnOf x x pg bg sg dV kV doc pm an cdv ct), osl⟩) (hcg : PySem.W.codeIn X.K cdv x = true) (hb : L2.Binds X.K (PySem.W.fnOf x x pg bg sg dV kV doc pm an cdv ct) [a] []) (Sg : FnScope Ng [a] sg) (hNg : Ng[0]? = some a) (hva : Vis sg a)
    (hG : GivesW X Ng x sg g cdv bg a (X.env.qual ++ "<lambda>") TT)
    (TB : TabB X.base X.mg c P) (hcode : X.env.code = .ref c) (hmT : (P, X.env.qual ++ "<lambda>") ∈ T) (hu : ∀ p ∈ T, p.1 = P → p.2 = X.env.qual ++ "<lambda>") (hr : Room (k + 2) X.A) (L : LamSD X.env.scope scope kp) (hpN : kp ∉ X.N)
    (hdef : defaultsOf params X.env = ([eval (.Constant (.int iv) ij ip) X.env], [])) (hkw : params.kwonlyargs = [])
    (hbind : ∀ (q : Str) (cl : List (Str × Addr)) (tp : Addr) (pm cv ctv v : Value), ∃ k, bindArgs (fnD q params body scope cl (.ref tp) pm cv ctv) ⟨[], []⟩ = seqItems? (.ref tp) >>= k ∧ k (some #[v]) = pure [(kp, v)])
    (hbody : ∀ (A : Around) (outer : List Env) (s : Shared) (H : Hp) (E : XK) (f c' : Addr), Room k (A.deeper (lamEnv X scope s.heap.objs.size f c')) → PE (lamCx X A outer s H E scope f c') body (t E))
    (hdb : (x == ("__debug__" : Str)) = false := by decide) (hd : (a == ("__debug__" : Str)) = false := by decide) (hcd : (a == ("__classdict__" : Str)) = false := by decide) :
    PE X (.Call (.Name x p) [.Lambda params body scope lpos] [] pos) (tLam T TT t) := by
  refine ⟨fun pins s σ H Q I h => ?_⟩
  obtain ⟨hT, h⟩ := h
  refine wpAny_Call_Name_kw (ld_glob I hg hm ?_ hdb)
  refine PySem.W.callWith_K (h₀ := X.base) I.ok.mod.kin hk ?_ (by rfl) (by rfl)
  show wpAny _ _ (spliced ((false, eval (.Lambda params body scope lpos) X.env) :: backTo pos (starEach [] X.env))) _ _ s
  refine Calls.spliced_cons (makeD I TB hcode hmT hu hT hdef hkw (L.has I.ok) fun f c' tp tk0 pm' ctv H1 s' I1 eN T1 hf hfn hfr htp htn htr hco => ?_)
  refine Calls.spliced_nil ⟨I1.kIn, ?_⟩
  have rc : codeAny (model X.prog X.w) X.A (.call (.ref g) ⟨[.ref f], []⟩) (CR C8.CX0 X.stack X.prog X.w H1 s' Q C8.E0) s' := by
    refine run_ofS (N := Ng) (ps := [a]) (us := [.ref f]) (vs := [.ref f]) lk hcg Sg hr I1.env0 (hb s' [.ref f] I1.kIn rfl) (.cons rfl .nil) rfl fun hr' => ?_
    obtain ⟨t', ht', hq'⟩ := hG f c' s' H1 Q (fun E H' Q' => t E σ H' Q') (fun W pn xe E p1 p2 tk => actW (i := 0) I1 L hpN hf hfn hfr htp htn htr (fun v => hbind _ _ _ _ _ _ v) tk hr' (fun A outer s H hr2 => hbody A outer s H E f c' hr2) hNg hva hd hcd) hco (h H1 eN T1)
    exact ⟨t', ht'.nox, hq'⟩
  refine wpAny_call (codeAny_mono rc fun r s2 hq => ?_)
  cases r with
  | error e => exact (show False from hq).elim
  | ok fl =>
    cases fl with
    | ret u => exact I1.after hq
    | next => exact False.elim hq
    | brk => exact False.elim hq
    | cont => exact False.elim hq
end
end DL

set_option Elab.async false
set_option linter.all false
set_option maxRecDepth 100000
set_option maxHeartbeats 4000000
/-! a def whose code object is known; tables kept -/
namespace DL
open PySem PySem.Spec PyProof.Rows L2
theorem FunD_okC {P : Program} {w : World} {K : PySem.W.Frag} {mg : Str → Option Value} {base : Heap} {CX : CXT} {x qual : Str} {params : Arguments} {body : List Stmt} {scope : Scope} {dvs : List V} {kws : List (Str × V)} {f : Addr} {fd : FuncData} {N ps : List Str} {k : Nat} {sp : Sp} {c : Addr}
    (F : FunD K x qual params body scope dvs kws f fd) (S : FnScope N ps scope) (hc : fd.code = .ref c) (len : ∀ vs H Q E, sp vs H Q E → vs.length = ps.length)
    (hbody : ∀ (A : Around) (outer : List Env) (s : Shared) (H : Hp) (vs : List V) (Q : VK) (E : XK), Room k (A.deeper (envOfC qual scope s.heap.objs.size f (.ref c))) → sp vs H Q E →
      ∃ t, PSs (cxOf CX P w K mg base N qual scope f (.ref c) A outer s H E) body t ∧ t { nx := fun _ H' => Q .non H', rt := Q } (start N vs) H) : FnOk P w K mg base CX (k + 1) f fd ps sp := by
  obtain ⟨oc, od, dV, kV, doc, pm, an, cdv, ct, osl, rfl, lk, hcd, _, _⟩ := F.ex
  cases (show cdv = .ref c from hc)
  exact fn_of lk hcd S len fun A outer s H vs Q E hr hsp => hbody A outer s H vs Q E hr hsp
abbrev ExN := LamX.ExtN
theorem ExN.of {H H' : Hp} (e : Ex H H') : ExN H H' := fun b o h _ => e b o h
theorem ExN.tr {H H1 H2 : Hp} (a : ExN H H1) (b : ExN H1 H2) : ExN H H2 := LamX.ExtN.trans a b
theorem ExN.kp {H H' : Hp} {N : Addr → Prop} (e : ExN H H') : Kp N H H' := fun b o h _ n => e b o h n
end DL

set_option Elab.async false
set_option linter.all false
set_option maxRecDepth 100000
set_option maxHeartbeats 4000000
/-! data written down, and drawn -/
namespace DL
open PySem PySem.Spec PyProof.Rows L2
section
variable {K : PySem.W.Frag} {N : Addr → Prop} {σ : L2.St} {H : Hp}
/-- te makes the datum d, new -/
def VE (K : PySem.W.Frag) (N : Addr → Prop) (te : TE) (σ : L2.St) (H : Hp) (d : PyData) : Prop := ∀ H1, Ex H H1 → ∀ Q : VK, (∀ v H', Ex H1 H' → Rp K N H' v d → Q v H') → te σ H1 Q
def VR (K : PySem.W.Frag) (N : Addr → Prop) (ta : TA) (σ : L2.St) (H : Hp) (ds : List PyData) : Prop := ∀ H1, Ex H H1 → ∀ Q : List V → Hp → Prop, (∀ vs H', Ex H1 H' → RpA K N H' vs ds → vs.length = ds.length → Q vs H') → ta σ H1 Q
theorem ve_non : VE K N (tC .non) σ H .none := fun H1 _ Q q => q _ _ (ex_refl H1) .non
theorem ve_int (i : Int) : VE K N (tC (.int i)) σ H (.int i) := fun H1 _ Q q => q _ _ (ex_refl H1) (.int i)
theorem ve_bl (b : Bool) : VE K N (tC (.bl b)) σ H (.bool b) := fun H1 _ Q q => q _ _ (ex_refl H1) (.bl b)
theorem ve_str (x : Str) : VE K N (tC (.str x)) σ H (.str x) := fun H1 _ Q q => q _ _ (ex_refl H1) (.str x)
theorem ve_neg (i : Int) : VE K N (tUn (rU fun i => .int (-i)) (tC (.int i))) σ H (.int (-i)) := fun H1 _ Q q => vl_neg val_c _ (q _ _ (ex_refl H1) (.int (-i)))
theorem vr_nil : VR K N tNil σ H [] := fun H1 _ Q q => q _ _ (ex_refl H1) .nil rfl
theorem RpA.ex {vs : List V} {ds : List PyData} {H' : Hp} (h : RpA K N H vs ds) (e : Ex H H') : RpA K N H' vs ds := h.kp (Kp.of e)
theorem vr_cons {te : TE} {ta : TA} {d : PyData} {ds : List PyData} (h : VE K N te σ H d) (r : VR K N ta σ H ds) : VR K N (tCons te ta) σ H (d :: ds) := fun H1 e Q q =>
  h H1 e _ fun v H2 e2 rv => r H2 (e.tr e2) _ fun vs H3 e3 rs hl => q _ _ (e2.tr e3) (.cons (rv.ex e3) rs) (by rw [List.length_cons, List.length_cons, hl])
theorem ve_tup {ta : TA} {ds : List PyData} (hN : ∀ a, N a → H a ≠ none) (h : VR K N ta σ H ds) (hl : ds.length ≤ 1000) : VE K N (tTup ta) σ H (.tuple ds) := fun H1 e Q q =>
  h H1 e _ fun vs H2 e2 rs hn => ⟨by rw [hn]; exact Nat.le_trans hl (by decide), fun p hp => q _ _ (e2.tr (ex_new hp)) (.tup (SqT.of upd_same) (fun z => hN p z ((e.tr e2).back hp)) (rs.ex (ex_new hp)))⟩
theorem ve_lst {ta : TA} {ds : List PyData} (hN : ∀ a, N a → H a ≠ none) (h : VR K N ta σ H ds) (hl : ds.length ≤ 1000) : VE K N (tLst ta) σ H (.list ds) := fun H1 e Q q =>
  h H1 e _ fun vs H2 e2 rs hn => ⟨by rw [hn]; exact Nat.le_trans hl (by decide), fun p hp => q _ _ (e2.tr (ex_new hp)) (.lst (SqL.of upd_same) (fun z => hN p z ((e.tr e2).back hp)) (rs.ex (ex_new hp)))⟩
theorem ve_dic (hN : ∀ a, N a → H a ≠ none) : VE K N tDNewK σ H (.dict []) := fun H1 e Q q p hp => q _ _ (ex_new hp) (.dic upd_same fun z => hN p z (e.back hp))
end
theorem Pen.exN {H H' : Hp} {pn c0 : Addr} {cells : List Int} {a l : Int} (p : Pen H pn c0 cells a l) (e : ExN H H') : Pen H' pn c0 cells a l := ⟨e _ _ p.p (fun ps z => by cases z), e _ _ p.c (fun ps z => by cases z), p.a0, p.a1, p.l0, p.len⟩
theorem Tabs_exB {T : List (Addr × Str)} {H H' : Hp} {pn : Addr} {xs : List V} (t : LamX.Tabs T H) (hp : H pn = some (.lst xs)) (e : ExB pn H H') : LamX.Tabs T H' := fun p hm => by
  obtain ⟨ps, h1, h2, h3⟩ := t p hm
  have n1 : p.1 ≠ pn := fun z => by rw [z, hp] at h1; cases h1
  refine ⟨ps, e _ _ n1 h1, h2, fun pos cv hc => ?_⟩
  obtain ⟨c, e1, e2⟩ := h3 pos cv hc
  have n2 : c ≠ pn := fun z => by rw [z, hp] at e2; cases e2
  exact ⟨c, e1, e _ _ n2 e2⟩
end DL

set_option Elab.async false
set_option linter.all false
set_option maxRecDepth 100000
set_option maxHeartbeats 4000000
/-! own error classes, told by one Bool of what the head holds -/
namespace DL
open PySem PySem.Spec PyProof.Rows L2
def clsB (K : PySem.W.Frag) (C : Addr) : Bool := match K.lookup C with
  | some ⟨.type "type", _, .cls cd, sl⟩ => (match cd.mro, sl.toList with
    | .ref C' :: bm, [_, _, _, _, some (.builtin n), _] => C' == C && n == "ValueError.__new__" && !cd.hasDel && cd.hasDict && PySem.HandSPX.refsVE bm
    | _, _ => false)
  | _ => false
theorem clsB_ok {K : PySem.W.Frag} {C : Addr} (q : clsB K C = true) : ∃ nm qn N bs bm sn sub ab col dd k0 k1 k2 k3 k5, K.lookup C = some (excClassObj nm qn C N bs bm true sn sub ab col dd k0 k1 k2 k3 k5 "ValueError.__new__") ∧ PySem.HandSPX.refsVE bm = true := by
  unfold clsB at q
  split at q
  · rename_i dd cd sl ho
    split at q
    · rename_i C' bm k0 k1 k2 k3 n k5 hm hs
      simp only [Bool.and_eq_true, beq_iff_eq, Bool.not_eq_true'] at q
      obtain ⟨⟨⟨⟨rfl, rfl⟩, hdel⟩, hdct⟩, ht⟩ := q
      obtain ⟨nm, bs, mro, ns, qn, hd, sn, sub, ab, col, del⟩ := cd
      dsimp only at hm hdel hdct
      subst hm hdel hdct
      have hsl : sl = #[k0, k1, k2, k3, some (.builtin "ValueError.__new__"), k5] := by
        obtain ⟨l⟩ := sl
        simp only at hs
        rw [hs]
      subst hsl
      exact ⟨nm, qn, ns, bs, bm, sn, sub, ab, col, dd, k0, k1, k2, k3, k5, ho, ht⟩
    · cases q
  · cases q
def oexB (K : PySem.W.Frag) (C : Addr) : Bool := clsB K C && (decide (PySem.W.findIn K (.ref C) "__setattr__" = some (some (.builtin "object.__setattr__"))) && (decide (PySem.W.subIn K (.ref C) (.type "BaseException") = some true) && (decide (PySem.W.typeIn K (.ref C) = some (.type "type")) && PySem.W.keepIn K (.ref C))))
theorem oexB_ok {K : PySem.W.Frag} {C : Addr} (q : oexB K C = true) : OexC K C := by
  obtain ⟨q1, q⟩ := He.ba q
  obtain ⟨q2, q⟩ := He.ba q
  obtain ⟨q3, q⟩ := He.ba q
  obtain ⟨q4, q5⟩ := He.ba q
  exact ⟨clsB_ok q1, of_decide_eq_true q2, of_decide_eq_true q3, of_decide_eq_true q4, q5⟩
def xcB (K : PySem.W.Frag) (D : Addr) : Bool := (PySem.W.clsIn K D).isSome && (decide (PySem.W.findIn K (.ref D) "__getattribute__" = some (some (.builtin "BaseException.__getattribute__"))) && (decide (PySem.W.findIn K (.ref D) "__getattr__" = some none) &&
  (decide (PySem.W.subIn K (.ref D) (.type "BaseException") = some true) && (PySem.W.hasDictIn K D && (decide (PySem.W.findIn K (.ref D) "__class__" = some (some (.builtin "object.__class__"))) &&
  (decide (PySem.W.specialIn K (.builtin "object.__class__") "__get__" = some (some (.builtin "getset_descriptor.__get__"))) && (decide (PySem.W.takesIn K (.builtin "object.__class__") = some true) && decide (PySem.W.mroIn K D (.type "object") = some true))))))))
theorem xcB_ok {K : PySem.W.Frag} {D : Addr} (q : xcB K D = true) : XcC K D := by
  obtain ⟨q1, q⟩ := He.ba q
  obtain ⟨q2, q⟩ := He.ba q
  obtain ⟨q3, q⟩ := He.ba q
  obtain ⟨q4, q⟩ := He.ba q
  obtain ⟨q5, q⟩ := He.ba q
  obtain ⟨q6, q⟩ := He.ba q
  obtain ⟨q7, q⟩ := He.ba q
  obtain ⟨q8, q9⟩ := He.ba q
  exact ⟨q1, of_decide_eq_true q2, of_decide_eq_true q3, of_decide_eq_true q4, q5, of_decide_eq_true q6, of_decide_eq_true q7, of_decide_eq_true q8, of_decide_eq_true q9⟩
/-- an own error's facts: its class, its field f, its __init__ -/
def errB (K : PySem.W.Frag) (x f : Str) : Bool := oexB K (He.ga K x) && (xcB K (He.ga K x) && (decide (PySem.W.findIn K (.ref (He.ga K x)) f = some none) &&
  (decide (PySem.W.findIn K (.ref (He.ga K x)) "__init__" = some (some (.ref (He.ma K (He.ga K x) "__init__")))) && decide (PySem.W.typeIn K (.ref (He.ma K (He.ga K x) "__init__")) = some (.type "function")))))
end DL

set_option Elab.async false
set_option linter.all false
set_option maxRecDepth 100000
set_option maxHeartbeats 4000000
/-! k01: the program's defs -/
namespace K01
open PySem PySem.Spec PyProof.Rows L2 DL
def top (i : Nat) : Stmt := PySem.Challenge.pw_countsalone_k01_fractions_of_any_size.main.body.getD i (.Pass ⟨0, 0, 0, 0⟩)
abbrev sIsInt : Stmt := top 6
abbrev sIsFr : Stmt := top 8
abbrev sNeed : Stmt := top 9
abbrev sRed : Stmt := top 10
abbrev sAdd : Stmt := top 11
abbrev sTak : Stmt := top 12
abbrev sMul : Stmt := top 13
abbrev sDiv : Stmt := top 14
abbrev sLess : Stmt := top 15
abbrev sLow : Stmt := top 16
abbrev sPlus : Stmt := top 17
abbrev sMinus : Stmt := top 18
abbrev sTimes : Stmt := top 19
abbrev sOver : Stmt := top 20
abbrev sOrd : Stmt := top 21
/-- the built-in names that the module leaves as they are -/
structure Nm (mg : Str → Option Value) : Prop where
  isi : mg "isinstance" = none
  int : mg "int" = none
  bool : mg "bool" = none
  list : mg "list" = none
  tuple : mg "tuple" = none
  len : mg "len" = none
  abs : mg "abs" = none
  repr : mg "repr" = none
  range : mg "range" = none
  gcd : mg "gcd" = some (.builtin "math.gcd")
def isI : PyData → Bool
  | .int _ => true
  | _ => false
theorem isI_eq (d : PyData) : (isTy "int" d && !isTy "bool" d) = isI d := by
  rw [isTy_int, isTy_bool]
  cases d <;> rfl
section
variable {P : Program} {w : World} {K : PySem.W.Frag} {mg : Str → Option Value} {base : Heap}
/-! ### is_integer -/
def spIsInt (K : PySem.W.Frag) : Sp := fun vs H Q _ => ∃ v d, vs = [v] ∧ Rp K N0 H v d ∧ Q (.bl (isI d)) H
theorem scIsInt : FnScope ["value"] ["value"] (defScope sIsInt) := ⟨rfl, rfl, rfl, by decide +kernel, rfl, by decide +kernel, by decide +kernel⟩
theorem ok_isInt (T : Nm mg) {f : Addr} {fd : FuncData} (F : FunD K "is_integer" "is_integer" (defArgs sIsInt) (defBody sIsInt) (defScope sIsInt) [] [] f fd) : FnOk P w K mg base (L2.CX P w) 1 f fd ["value"] (spIsInt K) := by
  refine F.ok scIsInt (fun vs H Q E h => ?_) (fun cdv A outer s H vs Q E hr h => ?_)
  · obtain ⟨v, d, rfl, _⟩ := h
    rfl
  · obtain ⟨v, d, rfl, hv, q⟩ := h
    refine ⟨_, pss_one (ps_ret (pe_and (pe_callB call_isi (by rfl) T.isi (by decide +kernel) (pa_cons (pv 0) (pa_cons (pe_bltn (v := .ty "int") (by rfl) T.int (by decide +kernel) rfl) pa_nil)))
      (pe_one (pe_not (pe_callB call_isi (by rfl) T.isi (by decide +kernel) (pa_cons (pv 0) (pa_cons (pe_bltn (v := .ty "bool") (by rfl) T.bool (by decide +kernel) rfl) pa_nil))))))), ?_⟩
    rw [← isI_eq] at q
    refine ⟨_, rfl, _, _, _, _, _, rfl, .ty _, hv.ty, kit_int d, _, rfl, ?_⟩
    cases e : isTy "int" d with
    | false =>
      rw [e] at q
      exact iteF q
    | true =>
      rw [e] at q
      refine iteT ?_
      exact ⟨_, rfl, _, _, _, _, _, rfl, .ty _, hv.ty, kit_bool d, _, rfl, q⟩
theorem iteNN {c A B : Prop} [Decidable c] (hc : ¬ c) (h : A) : if (!decide c) = true then A else B := by
  rw [decide_eq_false hc]
  exact iteT h
/-! ### is_fraction -/
def frS : List PyData → Option (Int × Int)
  | [a, b] => (match a, b with
    | .int p, .int q => if 0 < q then some (p, q) else none
    | _, _ => none)
  | _ => none
def frOf (d : PyData) : Option (Int × Int) := match seqOf d with
  | some ds => frS ds
  | none => none
theorem frOf_seq {d : PyData} {ds : List PyData} (h : seqOf d = some ds) : frOf d = frS ds := by
  unfold frOf
  rw [h]
theorem frOf_none {d : PyData} (h : seqOf d = none) : frOf d = none := by
  unfold frOf
  rw [h]
def spIsFr (K : PySem.W.Frag) : Sp := fun vs H Q _ => ∃ v d, vs = [v] ∧ Rp K N0 H v d ∧ ∀ H', Ex H H' → Q (.bl (frOf d).isSome) H'
theorem scIsFr : FnScope ["value"] ["value"] (defScope sIsFr) := ⟨rfl, rfl, rfl, by decide +kernel, rfl, by decide +kernel, by decide +kernel⟩
theorem bdIsInt : Bd "is_integer" sIsInt ["value"] := fun _ _ _ _ _ _ us hl => match us, hl with | [_], _ => rfl
theorem ok_isFr (T : Nm mg) (CI : Cal P w K mg base 1 "is_integer" sIsInt ["value"] (spIsInt K)) {f : Addr} {fd : FuncData} (F : FunD K "is_fraction" "is_fraction" (defArgs sIsFr) (defBody sIsFr) (defScope sIsFr) [] [] f fd) : FnOk P w K mg base (L2.CX P w) 2 f fd ["value"] (spIsFr K) := by
  refine F.ok scIsFr (fun vs H Q E h => ?_) (fun cdv A outer s H vs Q E hr h => ?_)
  · obtain ⟨v, d, rfl, _⟩ := h
    rfl
  · obtain ⟨v, d, rfl, hv, q⟩ := h
    refine ⟨_, pss_cons (ps_if (PW.pt (pw_or (pt_not (pt_val (pe_sq (pv 0) (by rfl) (by rfl) (by rfl) T.isi T.list T.tuple))) (pw_or1 (pt_cmpR op_ne (pe_ln (pv 0) (by rfl) T.len) pe_int (nomark _))))) (pss_one (ps_ret pe_bl)) pss_nil)
      (pss_one (ps_ret (pe_and (pe_cal CI bdIsInt hr (by decide) passL (by rfl) (pa_cons (pe_at (pv 0) pe_int (fun _ _ => rfl)) pa_nil))
        (pe_and (pe_cal CI bdIsInt hr (by decide) passL (by rfl) (pa_cons (pe_at (pv 0) pe_int (fun _ _ => rfl)) pa_nil))
        (pe_one (pe_cmpR op_gt (pe_at (pv 0) pe_int (fun _ _ => rfl)) pe_int (nomark _))))))), ?_⟩
    refine ⟨v, rfl, d, hv, fun H2 e2 => ⟨_, rfl, ?_⟩⟩
    cases hd : seqOf d with
    | none =>
      refine iteT (iteT ?_)
      have z := q H2 e2
      rw [frOf_none hd] at z
      exact z
    | some ds =>
      refine iteF ?_
      refine ⟨v, rfl, d, ds, hv.ex e2, hd, rfl, _, rfl, ?_⟩
      have z := q H2 e2
      rw [frOf_seq hd] at z
      have rv := hv.ex e2
      match ds, hd, z with
      | [], hd, z => exact iteT z
      | [_], hd, z => exact iteT z
      | _ :: _ :: _ :: r, hd, z =>
        refine iteNN (fun e => ?_) z
        have e' := V.int.inj e
        rw [List.length_cons, List.length_cons, List.length_cons] at e'
        omega
      | [d0, d1], hd, z =>
        refine iteF ?_
        refine ⟨v, rfl, d, [d0, d1], 0, d0, rv, hd, rfl, rfl, fun v0 r0 => ?_⟩
        refine ⟨v0, d0, rfl, r0, _, rfl, ?_⟩
        cases d0 with
        | int p =>
          refine iteT ?_
          refine ⟨v, rfl, d, [.int p, d1], 1, d1, rv, hd, rfl, rfl, fun v1 r1 => ?_⟩
          refine ⟨v1, d1, rfl, r1, _, rfl, ?_⟩
          cases d1 with
          | int q' =>
            refine iteT ?_
            refine ⟨v, rfl, d, [.int p, .int q'], 1, .int q', rv, hd, rfl, rfl, fun v2 r2 => ?_⟩
            cases r2
            refine ⟨_, _, rfl, rfl, ?_⟩
            show Q (.bl (decide (0 < q'))) H2
            by_cases c : 0 < q'
            · rw [decide_eq_true c]
              have e : frS [.int p, .int q'] = some (p, q') := if_pos c
              rw [e] at z
              exact z
            · rw [decide_eq_false c]
              have e : frS [.int p, .int q'] = none := if_neg c
              rw [e] at z
              exact z
          | _ => exact iteF z
        | _ => exact iteF z
end
end K01

set_option Elab.async false
set_option linter.all false
set_option maxRecDepth 100000
set_option maxHeartbeats 4000000
/-! k01: the fractions' arithmetic -/
namespace K01
open PySem PySem.Spec PyProof.Rows L2 DL
/-- the sign of the second number is the divisor's -/
def cmn (p q : Int) : Int := if q < 0 then -((Nat.gcd p.natAbs q.natAbs : Nat) : Int) else ((Nat.gcd p.natAbs q.natAbs : Nat) : Int)
def red (p q : Int) : Int × Int := (p.fdiv (cmn p q), q.fdiv (cmn p q))
theorem cmn_ne {p q : Int} (h : q ≠ 0) : cmn p q ≠ 0 := by
  have hg : 0 < Nat.gcd p.natAbs q.natAbs := Nat.gcd_pos_of_pos_right _ (by omega)
  unfold cmn
  split <;> omega
theorem cmn_abs {p q : Int} (h : q ≠ 0) : (cmn p q).natAbs ≤ q.natAbs := by
  have hg : Nat.gcd p.natAbs q.natAbs ≤ q.natAbs := Nat.gcd_le_right _ (by omega)
  unfold cmn
  split <;> omega
/-- a new pair -/
def NewP (H : Hp) (Q : VK) (f : Int × Int) : Prop := ∀ t H', Ex H H' → H t = none → H' t = some (.tup [.int f.1, .int f.2]) → Q (.ref t) H'
theorem NewP.mono {H H1 : Hp} {Q : VK} {f : Int × Int} (e : Ex H H1) (h : NewP H Q f) : NewP H1 Q f := fun t H' e1 n a => h t H' (e.tr e1) (e.back n) a
abbrev Pr (K : PySem.W.Frag) (H : Hp) (v : V) (p q : Int) : Prop := Rp K N0 H v (.tuple [.int p, .int q])
abbrev two (i j : Int) : List PyData := [.int i, .int j]
def Sm (n : Nat) (i : Int) : Prop := i.natAbs < 2 ^ n
section
variable {P : Program} {w : World} {K : PySem.W.Frag} {mg : Str → Option Value} {base : Heap}
/-! ### reduced -/
def spRed : Sp := fun vs H Q _ => ∃ p q : Int, vs = [.int p, .int q] ∧ q ≠ 0 ∧ Sm 8000 q ∧ NewP H Q (red p q)
theorem scRed : FnScope ["p", "q", "common"] ["p", "q"] (defScope sRed) := ⟨rfl, rfl, rfl, by decide +kernel, rfl, by decide +kernel, by decide +kernel⟩
theorem ok_red (T : Nm mg) {f : Addr} {fd : FuncData} (F : FunD K "reduced" "reduced" (defArgs sRed) (defBody sRed) (defScope sRed) [] [] f fd) : FnOk P w K mg base (L2.CX P w) 1 f fd ["p", "q"] spRed := by
  refine F.ok scRed (fun vs H Q E h => ?_) (fun cdv A outer s H vs Q E hr h => ?_)
  · obtain ⟨p, q, rfl, _⟩ := h
    rfl
  · obtain ⟨p, q, rfl, hq, hs, k⟩ := h
    refine ⟨_, pss_cons (ps_set (i := 2) scRed.nd rfl (.inl rfl) (pe_callBfun cr_gcd (by rfl) T.gcd (pa_cons (pv 0) (pa_cons (pv 1) pa_nil))))
      (pss_cons (ps_if (pt_cmpR op_lt (pv 1) pe_int (nomark _)) (pss_one (ps_set (i := 2) scRed.nd rfl (.inl rfl) (pe_un un_neg (pv 2)))) pss_nil)
      (pss_one (ps_ret (pe_tup (pa_cons (pe_op op_fdivA (pv 0) (pv 2)) (pa_cons (pe_op op_fdivA (pv 1) (pv 2)) pa_nil)))))), ?_⟩
    have hd : CDivA p (cmn p q) := ⟨cmn_ne hq, PySem.Flt.log2_lt_of (by decide) (Nat.lt_of_le_of_lt (cmn_abs hq) (Nat.lt_of_lt_of_le hs (Nat.pow_le_pow_right (by decide) (by decide))))⟩
    have fin : ∀ c : Int, c = cmn p q → ∀ D : Ends, D.rt = Q → tRet (tTup (tCons (tOp (rI CDivA fun i j => .int (i.fdiv j)) (tVar 0) (tVar 2)) (tCons (tOp (rI CDivA fun i j => .int (i.fdiv j)) (tVar 1) (tVar 2)) tNil))) D [some (.int p), some (.int q), some (.int c)] H := by
      intro c hc D hD
      refine ⟨_, rfl, _, rfl, p, c, rfl, rfl, by rw [hc]; exact hd, _, rfl, _, rfl, q, c, rfl, rfl, by rw [hc]; exact ⟨hd.1, hd.2⟩, by show 2 ≤ sizeLine; decide, fun t ht => ?_⟩
      rw [hD]
      refine k t _ (ex_new ht) ht ?_
      rw [upd_same, hc]
      rfl
    refine ⟨_, rfl, _, rfl, p, q, rfl, ?_⟩
    refine ⟨_, rfl, q, 0, rfl, rfl, _, rfl, ite2 (fun c => ?_) (fun c => ?_)⟩
    · refine ⟨_, rfl, _, rfl, fin _ ?_ _ (by rfl)⟩
      have c' : q < 0 := of_decide_eq_true c
      unfold cmn
      rw [if_pos c']
    · refine fin _ ?_ _ (by rfl)
      have c' : ¬ q < 0 := fun z => c (decide_eq_true z)
      unfold cmn
      rw [if_neg c']
/-! ### added and its like: a formula of the four numbers, reduced -/
def spAr (K : PySem.W.Frag) (a b : Int → Int → Int → Int → Int) : Sp := fun vs H Q _ => ∃ (v1 v2 : V) (p q r s : Int), vs = [v1, v2] ∧ Pr K H v1 p q ∧ Pr K H v2 r s ∧ Sm 2000 p ∧ Sm 2000 q ∧ Sm 2000 r ∧ Sm 2000 s ∧ b p q r s ≠ 0 ∧ NewP H Q (red (a p q r s) (b p q r s))
theorem bdRed : Bd "reduced" sRed ["p", "q"] := fun _ _ _ _ _ _ us hl => match us, hl with | [_, _], _ => rfl
theorem sm_mul {i j : Int} {a b : Nat} (ha : Sm a i) (hb : Sm b j) : Sm (a + b) (i * j) := wide_lt ha hb
theorem sm_le {i : Int} {a b : Nat} (h : a ≤ b) (ha : Sm a i) : Sm b i := Nat.lt_of_lt_of_le ha (Nat.pow_le_pow_right (by decide) h)
theorem scAdd : FnScope ["one", "other"] ["one", "other"] (defScope sAdd) := ⟨rfl, rfl, rfl, by decide +kernel, rfl, by decide +kernel, by decide +kernel⟩
theorem m2 {i j : Int} (h1 : Sm 2000 i) (h2 : Sm 2000 j) : CMulW i j := wide_mul h1 h2 (by decide) (by decide) (by decide)
end
section
variable {P : Program} {w : World} {K : PySem.W.Frag} {mg : Str → Option Value} {base : Heap}
/-- one[0], one[1] of a pair in slot n -/
theorem p0 {σ : L2.St} {H : Hp} {v : V} {p q : Int} {n : Nat} (e : σ[n]? = some (some v)) (h : Pr K H v p q) : Val (tAt K (tVar n) (tC (.int 0))) σ H (.int p) :=
  vl_at (n := 0) (val_var e) val_c h rfl rfl fun _ r => rp_int r
theorem p1 {σ : L2.St} {H : Hp} {v : V} {p q : Int} {n : Nat} (e : σ[n]? = some (some v)) (h : Pr K H v p q) : Val (tAt K (tVar n) (tC (.int 1))) σ H (.int q) :=
  vl_at (n := 1) (val_var e) val_c h rfl rfl fun _ r => rp_int r
theorem ok_add (CR : Cal P w K mg base 1 "reduced" sRed ["p", "q"] spRed) {f : Addr} {fd : FuncData} (F : FunD K "added" "added" (defArgs sAdd) (defBody sAdd) (defScope sAdd) [] [] f fd) :
    FnOk P w K mg base (L2.CX P w) 2 f fd ["one", "other"] (spAr K (fun p q r s => p * s + r * q) (fun _ q _ s => q * s)) := by
  refine F.ok scAdd (fun vs H Q E h => ?_) (fun cdv A outer s H vs Q E hr h => ?_)
  · obtain ⟨v1, v2, _, _, _, _, rfl, _⟩ := h
    rfl
  · obtain ⟨v1, v2, p, q, r, t, rfl, h1, h2, b1, b2, b3, b4, hn, k⟩ := h
    refine ⟨_, pss_one (ps_ret (pe_cal CR bdRed hr (by decide) passL (by rfl) (pa_cons (pe_op op_add (pe_op op_mulW (pe_at (pv 0) pe_int (fun _ _ => rfl)) (pe_at (pv 1) pe_int (fun _ _ => rfl))) (pe_op op_mulW (pe_at (pv 1) pe_int (fun _ _ => rfl)) (pe_at (pv 0) pe_int (fun _ _ => rfl))))
      (pa_cons (pe_op op_mulW (pe_at (pv 0) pe_int (fun _ _ => rfl)) (pe_at (pv 1) pe_int (fun _ _ => rfl))) pa_nil)))), ?_⟩
    refine rt_call (va2 (vl_I0 (vl_I (p0 rfl h1) (p1 rfl h2) (m2 b1 b4)) (vl_I (p0 rfl h2) (p1 rfl h1) (m2 b3 b2))) (vl_I (p1 rfl h1) (p1 rfl h2) (m2 b2 b4))) ?_
    exact ⟨_, _, rfl, hn, sm_le (by decide) (sm_mul b2 b4), k⟩
theorem sctak : FnScope ["one", "other"] ["one", "other"] (defScope sTak) := ⟨rfl, rfl, rfl, by decide +kernel, rfl, by decide +kernel, by decide +kernel⟩
theorem ok_tak (CR : Cal P w K mg base 1 "reduced" sRed ["p", "q"] spRed) {f : Addr} {fd : FuncData} (F : FunD K "taken" "taken" (defArgs sTak) (defBody sTak) (defScope sTak) [] [] f fd) :
    FnOk P w K mg base (L2.CX P w) 2 f fd ["one", "other"] (spAr K (fun p q r s => p * s - r * q) (fun p q r s => q * s)) := by
  refine F.ok sctak (fun vs H Q E h => ?_) (fun cdv A outer s H vs Q E hr h => ?_)
  · obtain ⟨v1, v2, _, _, _, _, rfl, _⟩ := h
    rfl
  · obtain ⟨v1, v2, p, q, r, t, rfl, h1, h2, b1, b2, b3, b4, hn, k⟩ := h
    refine ⟨_, pss_one (ps_ret (pe_cal CR bdRed hr (by decide) passL (by rfl) (pa_cons (pe_op op_sub (pe_op op_mulW (pe_at (pv 0) pe_int (fun _ _ => rfl)) (pe_at (pv 1) pe_int (fun _ _ => rfl))) (pe_op op_mulW (pe_at (pv 1) pe_int (fun _ _ => rfl)) (pe_at (pv 0) pe_int (fun _ _ => rfl)))) (pa_cons (pe_op op_mulW (pe_at (pv 0) pe_int (fun _ _ => rfl)) (pe_at (pv 1) pe_int (fun _ _ => rfl))) pa_nil)))), ?_⟩
    refine rt_call (va2 (vl_I0 (vl_I (p0 rfl h1) (p1 rfl h2) (m2 b1 b4)) (vl_I (p0 rfl h2) (p1 rfl h1) (m2 b3 b2))) (vl_I (p1 rfl h1) (p1 rfl h2) (m2 b2 b4))) ?_
    exact ⟨_, _, rfl, hn, sm_le (by decide) (sm_mul b2 b4), k⟩
theorem scmul : FnScope ["one", "other"] ["one", "other"] (defScope sMul) := ⟨rfl, rfl, rfl, by decide +kernel, rfl, by decide +kernel, by decide +kernel⟩
theorem ok_mul (CR : Cal P w K mg base 1 "reduced" sRed ["p", "q"] spRed) {f : Addr} {fd : FuncData} (F : FunD K "multiplied" "multiplied" (defArgs sMul) (defBody sMul) (defScope sMul) [] [] f fd) :
    FnOk P w K mg base (L2.CX P w) 2 f fd ["one", "other"] (spAr K (fun p q r s => p * r) (fun p q r s => q * s)) := by
  refine F.ok scmul (fun vs H Q E h => ?_) (fun cdv A outer s H vs Q E hr h => ?_)
  · obtain ⟨v1, v2, _, _, _, _, rfl, _⟩ := h
    rfl
  · obtain ⟨v1, v2, p, q, r, t, rfl, h1, h2, b1, b2, b3, b4, hn, k⟩ := h
    refine ⟨_, pss_one (ps_ret (pe_cal CR bdRed hr (by decide) passL (by rfl) (pa_cons (pe_op op_mulW (pe_at (pv 0) pe_int (fun _ _ => rfl)) (pe_at (pv 1) pe_int (fun _ _ => rfl))) (pa_cons (pe_op op_mulW (pe_at (pv 0) pe_int (fun _ _ => rfl)) (pe_at (pv 1) pe_int (fun _ _ => rfl))) pa_nil)))), ?_⟩
    refine rt_call (va2 (vl_I (p0 rfl h1) (p0 rfl h2) (m2 b1 b3)) (vl_I (p1 rfl h1) (p1 rfl h2) (m2 b2 b4))) ?_
    exact ⟨_, _, rfl, hn, sm_le (by decide) (sm_mul b2 b4), k⟩
theorem scdiv : FnScope ["one", "other"] ["one", "other"] (defScope sDiv) := ⟨rfl, rfl, rfl, by decide +kernel, rfl, by decide +kernel, by decide +kernel⟩
theorem ok_div (CR : Cal P w K mg base 1 "reduced" sRed ["p", "q"] spRed) {f : Addr} {fd : FuncData} (F : FunD K "divided" "divided" (defArgs sDiv) (defBody sDiv) (defScope sDiv) [] [] f fd) :
    FnOk P w K mg base (L2.CX P w) 2 f fd ["one", "other"] (spAr K (fun p q r s => p * s) (fun p q r s => q * r)) := by
  refine F.ok scdiv (fun vs H Q E h => ?_) (fun cdv A outer s H vs Q E hr h => ?_)
  · obtain ⟨v1, v2, _, _, _, _, rfl, _⟩ := h
    rfl
  · obtain ⟨v1, v2, p, q, r, t, rfl, h1, h2, b1, b2, b3, b4, hn, k⟩ := h
    refine ⟨_, pss_one (ps_ret (pe_cal CR bdRed hr (by decide) passL (by rfl) (pa_cons (pe_op op_mulW (pe_at (pv 0) pe_int (fun _ _ => rfl)) (pe_at (pv 1) pe_int (fun _ _ => rfl))) (pa_cons (pe_op op_mulW (pe_at (pv 0) pe_int (fun _ _ => rfl)) (pe_at (pv 1) pe_int (fun _ _ => rfl))) pa_nil)))), ?_⟩
    refine rt_call (va2 (vl_I (p0 rfl h1) (p1 rfl h2) (m2 b1 b4)) (vl_I (p1 rfl h1) (p0 rfl h2) (m2 b2 b3))) ?_
    exact ⟨_, _, rfl, hn, sm_le (by decide) (sm_mul b2 b3), k⟩
/-! ### is_less -/
def spLess (K : PySem.W.Frag) : Sp := fun vs H Q _ => ∃ (v1 v2 : V) (p q r s : Int), vs = [v1, v2] ∧ Pr K H v1 p q ∧ Pr K H v2 r s ∧ Sm 2000 p ∧ Sm 2000 q ∧ Sm 2000 r ∧ Sm 2000 s ∧ Q (.bl (decide (p * s < r * q))) H
theorem scLess : FnScope ["one", "other"] ["one", "other"] (defScope sLess) := ⟨rfl, rfl, rfl, by decide +kernel, rfl, by decide +kernel, by decide +kernel⟩
theorem ok_less {f : Addr} {fd : FuncData} (F : FunD K "is_less" "is_less" (defArgs sLess) (defBody sLess) (defScope sLess) [] [] f fd) : FnOk P w K mg base (L2.CX P w) 1 f fd ["one", "other"] (spLess K) := by
  refine F.ok scLess (fun vs H Q E h => ?_) (fun cdv A outer s H vs Q E hr h => ?_)
  · obtain ⟨v1, v2, _, _, _, _, rfl, _⟩ := h
    rfl
  · obtain ⟨v1, v2, p, q, r, t, rfl, h1, h2, b1, b2, b3, b4, k⟩ := h
    refine ⟨_, pss_one (ps_ret (pe_cmpR op_lt (pe_op op_mulW (pe_at (pv 0) pe_int (fun _ _ => rfl)) (pe_at (pv 1) pe_int (fun _ _ => rfl))) (pe_op op_mulW (pe_at (pv 1) pe_int (fun _ _ => rfl)) (pe_at (pv 0) pe_int (fun _ _ => rfl))) (nomark _))), ?_⟩
    exact rt_val (vl_I0 (vl_I (p0 rfl h1) (p1 rfl h2) (m2 b1 b4)) (vl_I (p0 rfl h2) (p1 rfl h1) (m2 b3 b2))) k
/-! ### need_fraction -/
/-- the error x with the text s for its part -/
def XB (C : Addr) (H : Hp) (E : XK) (s : Str) : Prop := ∀ d H', Ex H H' → H d = none → H' d = some (.xd [("part", .str s)]) → E (.ref C) (some d) H'
theorem XB.mono {C : Addr} {H H1 : Hp} {E : XK} {s : Str} (e : Ex H H1) (h : XB C H E s) : XB C H1 E s := fun d H' e1 n a => h d H' (e.tr e1) (e.back n) a
def spNeed (K : PySem.W.Frag) (CB : Addr) : Sp := fun vs H Q E => ∃ (s : Str) (v : V) (d : PyData), vs = [.str s, v] ∧ Rp K N0 H v d ∧ (frOf d = none → XB CB H E s) ∧ ∀ p q, frOf d = some (p, q) → Sm 8000 q ∧ NewP H Q (red p q)
theorem fr_pos {d : PyData} {p q : Int} (h : frOf d = some (p, q)) : 0 < q := by
  unfold frOf at h
  cases e : seqOf d with
  | none => rw [e] at h; cases h
  | some ds =>
    rw [e] at h
    have h : frS ds = some (p, q) := h
    unfold frS at h
    split at h
    · split at h
      · split at h
        · rename_i c
          injection h with h
          injection h with h1 h2
          rw [← h2]
          exact c
        · cases h
      · cases h
    · cases h
theorem fr_data {d : PyData} {p q : Int} (h : frOf d = some (p, q)) : seqOf d = some (two p q) := by
  unfold frOf at h
  cases e : seqOf d with
  | none => rw [e] at h; cases h
  | some ds =>
    rw [e] at h
    have h : frS ds = some (p, q) := h
    unfold frS at h
    split at h
    · split at h
      · split at h
        · injection h with h
          injection h with h1 h2
          rw [h1, h2]
        · cases h
      · cases h
    · cases h
theorem scNeed : FnScope ["part", "value"] ["part", "value"] (defScope sNeed) := ⟨rfl, rfl, rfl, by decide +kernel, rfl, by decide +kernel, by decide +kernel⟩
theorem bdIsFr : Bd "is_fraction" sIsFr ["value"] := fun _ _ _ _ _ _ us hl => match us, hl with | [_], _ => rfl
theorem ok_need {CB : Addr} (TB : XCls P w K mg base "BadValue" "part" CB) (CF : Cal P w K mg base 2 "is_fraction" sIsFr ["value"] (spIsFr K)) (CR : Cal P w K mg base 1 "reduced" sRed ["p", "q"] spRed) {f : Addr} {fd : FuncData} (F : FunD K "need_fraction" "need_fraction" (defArgs sNeed) (defBody sNeed) (defScope sNeed) [] [] f fd) :
    FnOk P w K mg base (L2.CX P w) 3 f fd ["part", "value"] (spNeed K CB) := by
  refine F.ok scNeed (fun vs H Q E h => ?_) (fun cdv A outer s H vs Q E hr h => ?_)
  · obtain ⟨_, _, _, rfl, _⟩ := h
    rfl
  · obtain ⟨st, v, d, rfl, hv, hn, hy⟩ := h
    refine ⟨_, pss_cons (ps_if (pt_not (pt_val (pe_cal CF bdIsFr hr (by decide) passL (by rfl) (pa_cons (pv 1) pa_nil)))) (pss_one (ps_rz rfl TB hr (by decide) (takes_of rfl rfl rfl rfl) (pv 0) (by rfl))) pss_nil)
      (pss_one (ps_ret (pe_cal CR bdRed hr (by decide) passL (by rfl) (pa_cons (pe_at (pv 1) pe_int (fun _ _ => rfl)) (pa_cons (pe_at (pv 1) pe_int (fun _ _ => rfl)) pa_nil))))), ?_⟩
    refine ⟨v, rfl, v, d, rfl, hv, fun H' e => ⟨_, rfl, ?_⟩⟩
    cases hd : frOf d with
    | none => exact iteT ⟨_, rfl, fun dd H2 e2 n a => hn hd dd H2 (e.tr e2) (e.back n) a⟩
    | some pq =>
      obtain ⟨p, q⟩ := pq
      obtain ⟨b, k⟩ := hy p q hd
      have hp := fr_pos hd
      refine iteF ?_
      refine rt_call (va2 (vl_at (n := 0) (u := .int p) (val_var rfl) val_c (hv.ex e) (fr_data hd) rfl fun _ r => rp_int r) (vl_at (n := 1) (u := .int q) (val_var rfl) val_c (hv.ex e) (fr_data hd) rfl fun _ r => rp_int r)) ?_
      exact ⟨_, _, rfl, by omega, b, k.mono e⟩
end
end K01

set_option Elab.async false
set_option linter.all false
set_option maxHeartbeats 4000000
namespace K01
open PySem DL
theorem cmn_dvd1 (p q : Int) : cmn p q ∣ p := by
  have h : ((Nat.gcd p.natAbs q.natAbs : Nat) : Int) ∣ p := Int.ofNat_dvd_left.mpr (Nat.gcd_dvd_left _ _)
  unfold cmn
  split
  · exact Int.neg_dvd.mpr h
  · exact h
theorem cmn_dvd2 (p q : Int) : cmn p q ∣ q := by
  have h : ((Nat.gcd p.natAbs q.natAbs : Nat) : Int) ∣ q := Int.ofNat_dvd_left.mpr (Nat.gcd_dvd_right _ _)
  unfold cmn
  split
  · exact Int.neg_dvd.mpr h
  · exact h
theorem fdiv_ex {c p : Int} (h : c ∣ p) : p.fdiv c * c = p := by
  obtain ⟨k, rfl⟩ := h
  by_cases hc : c = 0
  · subst hc; simp
  · rw [Int.mul_fdiv_cancel_left _ hc, Int.mul_comm]
structure Low (p q a b : Int) : Prop where
  pos : 0 < b
  eq : a * q = p * b
  one : Nat.gcd a.natAbs b.natAbs = 1
theorem red_low {p q : Int} (h : q ≠ 0) : Low p q (red p q).1 (red p q).2 := by
  have e1 : (red p q).1 * cmn p q = p := fdiv_ex (cmn_dvd1 p q)
  have e2 : (red p q).2 * cmn p q = q := fdiv_ex (cmn_dvd2 p q)
  have hc := cmn_ne (p := p) h
  generalize ha : (red p q).1 = a at *
  generalize hb : (red p q).2 = b at *
  have hg : (cmn p q).natAbs = Nat.gcd p.natAbs q.natAbs := by
    unfold cmn
    split <;> omega
  have hgp : 0 < Nat.gcd p.natAbs q.natAbs := Nat.gcd_pos_of_pos_right _ (by omega)
  have key : Nat.gcd a.natAbs b.natAbs * (cmn p q).natAbs = (cmn p q).natAbs := by
    have h1 : p.natAbs = a.natAbs * (cmn p q).natAbs := by rw [← Int.natAbs_mul, e1]
    have h2 : q.natAbs = b.natAbs * (cmn p q).natAbs := by rw [← Int.natAbs_mul, e2]
    rw [← Nat.gcd_mul_right, ← h1, ← h2, hg]
  refine ⟨?_, ?_, ?_⟩
  · by_cases hq : q < 0
    · have hneg : cmn p q < 0 := by
        unfold cmn
        rw [if_pos hq]
        omega
      by_cases hb0 : 0 < b
      · exact hb0
      · exfalso
        have : 0 ≤ b * cmn p q := Int.mul_nonneg_of_nonpos_of_nonpos (by omega) (by omega)
        omega
    · have hpos : 0 < cmn p q := by
        unfold cmn
        rw [if_neg hq]
        omega
      by_cases hb0 : 0 < b
      · exact hb0
      · exfalso
        have : b * cmn p q ≤ 0 := Int.mul_nonpos_of_nonpos_of_nonneg (by omega) (by omega)
        omega
  · have : a * (b * cmn p q) = (a * cmn p q) * b := by
      rw [Int.mul_assoc, Int.mul_comm b]
    rw [e2, e1] at this
    exact this
  · rw [hg] at key
    exact Nat.eq_of_mul_eq_mul_right hgp (by rw [key, Nat.one_mul])
theorem red_sm1 {p q : Int} {n : Nat} (h : q ≠ 0) (hp : Sm n p) : Sm n (red p q).1 := by
  have e1 : (red p q).1 * cmn p q = p := fdiv_ex (cmn_dvd1 p q)
  have hc := cmn_ne (p := p) h
  have h1 : p.natAbs = (red p q).1.natAbs * (cmn p q).natAbs := by rw [← Int.natAbs_mul, e1]
  refine Nat.lt_of_le_of_lt ?_ hp
  rw [h1]
  exact Nat.le_mul_of_pos_right _ (by omega)
theorem red_sm2 {p q : Int} {n : Nat} (h : q ≠ 0) (hq : Sm n q) : Sm n (red p q).2 := by
  have e1 : (red p q).2 * cmn p q = q := fdiv_ex (cmn_dvd2 p q)
  have hc := cmn_ne (p := p) h
  have h1 : q.natAbs = (red p q).2.natAbs * (cmn p q).natAbs := by rw [← Int.natAbs_mul, e1]
  refine Nat.lt_of_le_of_lt ?_ hq
  rw [h1]
  exact Nat.le_mul_of_pos_right _ (by omega)
end K01

set_option Elab.async false
set_option linter.all false
set_option maxRecDepth 100000
set_option maxHeartbeats 4000000
/-! k01: what is asked from outside -/
namespace K01
open PySem PySem.Spec PyProof.Rows L2 DL
section
variable {P : Program} {w : World} {K : PySem.W.Frag} {mg : Str → Option Value} {base : Heap}
/-! ### lowest -/
def spLow (K : PySem.W.Frag) (CB : Addr) : Sp := fun vs H Q E => ∃ (v1 v2 : V) (d1 d2 : PyData), vs = [v1, v2] ∧ Rp K N0 H v1 d1 ∧ Rp K N0 H v2 d2 ∧ (isI d1 = false → XB CB H E "p") ∧
  ∀ i, d1 = .int i → ((∀ j, d2 = .int j → j = 0) → XB CB H E "q") ∧ ∀ j, d2 = .int j → j ≠ 0 → Sm 8000 j ∧ NewP H Q (red i j)
theorem scLow : FnScope ["p", "q"] ["p", "q"] (defScope sLow) := ⟨rfl, rfl, rfl, by decide +kernel, rfl, by decide +kernel, by decide +kernel⟩
theorem ok_low {CB : Addr} (TB : XCls P w K mg base "BadValue" "part" CB) (CI : Cal P w K mg base 1 "is_integer" sIsInt ["value"] (spIsInt K)) (CR : Cal P w K mg base 1 "reduced" sRed ["p", "q"] spRed) {f : Addr} {fd : FuncData} (F : FunD K "lowest" "lowest" (defArgs sLow) (defBody sLow) (defScope sLow) [] [] f fd) :
    FnOk P w K mg base (L2.CX P w) 3 f fd ["p", "q"] (spLow K CB) := by
  refine F.ok scLow (fun vs H Q E h => ?_) (fun cdv A outer s H vs Q E hr h => ?_)
  · obtain ⟨_, _, _, _, rfl, _⟩ := h
    rfl
  · obtain ⟨v1, v2, d1, d2, rfl, r1, r2, hn, hy⟩ := h
    refine ⟨_, pss_cons (ps_if (pt_not (pt_val (pe_cal CI bdIsInt hr (by decide) passL (by rfl) (pa_cons (pv 0) pa_nil)))) (pss_one (ps_rz rfl TB hr (by decide) (takes_of rfl rfl rfl rfl) pe_str (by rfl))) pss_nil)
      (pss_cons (ps_if (PW.pt (pw_or (pt_not (pt_val (pe_cal CI bdIsInt hr (by decide) passL (by rfl) (pa_cons (pv 1) pa_nil)))) (pw_or1 (pt_cmpR op_eq (pv 1) pe_int (nomark _))))) (pss_one (ps_rz rfl TB hr (by decide) (takes_of rfl rfl rfl rfl) pe_str (by rfl))) pss_nil)
      (pss_one (ps_ret (pe_cal CR bdRed hr (by decide) passL (by rfl) (pa_cons (pv 0) (pa_cons (pv 1) pa_nil)))))), ?_⟩
    refine ⟨v1, rfl, v1, d1, rfl, r1, _, rfl, ?_⟩
    cases d1 with
    | int i =>
      obtain ⟨hq, hj⟩ := hy i rfl
      cases rp_int r1
      refine iteF ?_
      refine ⟨v2, rfl, v2, d2, rfl, r2, _, rfl, ?_⟩
      cases d2 with
      | int j =>
        cases rp_int r2
        refine iteF ?_
        refine ⟨_, rfl, rfl, _, rfl, ?_⟩
        by_cases c : j = 0
        · rw [decide_eq_true (show V.int j = V.int 0 by rw [c])]
          exact iteT (hq fun k e => by injection e with e; rw [← e]; exact c)
        · rw [decide_eq_false (show ¬ V.int j = V.int 0 from fun z => c (V.int.inj z))]
          obtain ⟨b, k⟩ := hj j rfl c
          exact iteF (rt_call (va2 (val_var rfl) (val_var rfl)) ⟨_, _, rfl, c, b, k⟩)
      | _ => exact iteT (iteT (hq fun k e => by cases e))
    | _ => exact iteT (hn rfl)
/-! ### plus, minus, times -/
/-- a formula of two fractions, both in lowest terms first -/
def binF (a b : Int → Int → Int → Int → Int) (p q r s : Int) : Int × Int := red (a (red p q).1 (red p q).2 (red r s).1 (red r s).2) (b (red p q).1 (red p q).2 (red r s).1 (red r s).2)
def spBin (K : PySem.W.Frag) (CB : Addr) (a b : Int → Int → Int → Int → Int) : Sp := fun vs H Q E => ∃ (v1 v2 : V) (d1 d2 : PyData), vs = [v1, v2] ∧ Rp K N0 H v1 d1 ∧ Rp K N0 H v2 d2 ∧ (frOf d1 = none → XB CB H E "one") ∧
  ∀ p q, frOf d1 = some (p, q) → Sm 2000 p ∧ Sm 2000 q ∧ (frOf d2 = none → XB CB H E "other") ∧ ∀ r s, frOf d2 = some (r, s) → Sm 2000 r ∧ Sm 2000 s ∧ NewP H Q (binF a b p q r s)
theorem bdNeed : Bd "need_fraction" sNeed ["part", "value"] := fun _ _ _ _ _ _ us hl => match us, hl with | [_, _], _ => rfl
theorem bdTwo {x : Str} {st : Stmt} (h : ∀ (kV doc pm : Value) (an : Option Addr) (cdv ct u v : Value), bindArgs (PySem.W.fnOf x x (defArgs st) (defBody st) (defScope st) .none kV doc pm an cdv ct) ⟨[u, v], []⟩ = pure [(("one" : Str), u), (("other" : Str), v)]) : Bd x st ["one", "other"] :=
  fun kV doc pm an cdv ct us hl => match us, hl with | [u, v], _ => h kV doc pm an cdv ct u v
theorem pr_of {H : Hp} {t : Addr} {f : Int × Int} (h : H t = some (.tup [.int f.1, .int f.2])) : Pr K H (.ref t) f.1 f.2 := .tup (SqT.of h) (fun z => z) (.cons (.int _) (.cons (.int _) .nil))
/-- what stands behind: inner(need_fraction('one', one), need_fraction('other', other)) -/
theorem bin_read {CB : Addr} {sp : Sp} {σ : L2.St} {H : Hp} {v1 v2 : V} {d1 d2 : PyData} {Q : VK} {E : XK} (e1 : σ[0]? = some (some v1)) (e2 : σ[1]? = some (some v2)) (r1 : Rp K N0 H v1 d1) (r2 : Rp K N0 H v2 d2) (hn : frOf d1 = none → XB CB H E "one")
    (hy : ∀ p q, frOf d1 = some (p, q) → Sm 2000 p ∧ Sm 2000 q ∧ (frOf d2 = none → XB CB H E "other") ∧ ∀ r s, frOf d2 = some (r, s) → Sm 2000 r ∧ Sm 2000 s ∧
      ∀ t1 t2 H', Ex H H' → H t1 = none → H t2 = none → H' t1 = some (.tup [.int (red p q).1, .int (red p q).2]) → H' t2 = some (.tup [.int (red r s).1, .int (red r s).2]) → sp [.ref t1, .ref t2] H' Q E) :
    tCall sp [] E (tCons (tCall (spNeed K CB) [] E (tCons (tC (.str "one")) (tCons (tVar 0) tNil))) (tCons (tCall (spNeed K CB) [] E (tCons (tC (.str "other")) (tCons (tVar 1) tNil))) tNil)) σ H Q := by
  refine te_call (sp := spNeed K CB) (t := tCons (tC (.str "one")) (tCons (tVar 0) tNil)) (va2 val_c (val_var e1)) ⟨_, _, d1, rfl, r1, hn, fun p q h => ?_⟩
  obtain ⟨b1, b2, hn2, hy2⟩ := hy p q h
  refine ⟨sm_le (by decide) b2, fun t1 H1 x1 n1 a1 => ?_⟩
  refine te_call (sp := spNeed K CB) (t := tCons (tC (.str "other")) (tCons (tVar 1) tNil)) (va2 val_c (val_var e2)) ⟨_, _, d2, rfl, r2.ex x1, fun h2 => (hn2 h2).mono x1, fun r s h2 => ?_⟩
  obtain ⟨b3, b4, k⟩ := hy2 r s h2
  refine ⟨sm_le (by decide) b4, fun t2 H2 x2 n2 a2 => ?_⟩
  exact k t1 t2 H2 (x1.tr x2) n1 (x1.back n2) (x2 _ _ a1) a2
theorem bin_fin {CB : Addr} {a b : Int → Int → Int → Int → Int} {H : Hp} {d1 d2 : PyData} {Q : VK} {E : XK} (hb : ∀ p q r s, 0 < q → 0 < s → b p q r s ≠ 0)
    (hy : ∀ p q, frOf d1 = some (p, q) → Sm 2000 p ∧ Sm 2000 q ∧ (frOf d2 = none → XB CB H E "other") ∧ ∀ r s, frOf d2 = some (r, s) → Sm 2000 r ∧ Sm 2000 s ∧ NewP H Q (binF a b p q r s)) :
    ∀ p q, frOf d1 = some (p, q) → Sm 2000 p ∧ Sm 2000 q ∧ (frOf d2 = none → XB CB H E "other") ∧ ∀ r s, frOf d2 = some (r, s) → Sm 2000 r ∧ Sm 2000 s ∧
      ∀ t1 t2 H', Ex H H' → H t1 = none → H t2 = none → H' t1 = some (.tup [.int (red p q).1, .int (red p q).2]) → H' t2 = some (.tup [.int (red r s).1, .int (red r s).2]) → spAr K a b [.ref t1, .ref t2] H' Q E := fun p q h => by
  obtain ⟨b1, b2, hn2, hy2⟩ := hy p q h
  refine ⟨b1, b2, hn2, fun r s h2 => ?_⟩
  obtain ⟨b3, b4, k⟩ := hy2 r s h2
  have q0 := fr_pos h
  have s0 := fr_pos h2
  refine ⟨b3, b4, fun t1 t2 H' x n1 n2 a1 a2 => ?_⟩
  exact ⟨_, _, _, _, _, _, rfl, pr_of a1, pr_of a2, red_sm1 (by omega) b1, red_sm2 (by omega) b2, red_sm1 (by omega) b3, red_sm2 (by omega) b4, hb _ _ _ _ (red_low (by omega)).pos (red_low (by omega)).pos, k.mono x⟩
theorem scPlus : FnScope ["one", "other"] ["one", "other"] (defScope sPlus) := ⟨rfl, rfl, rfl, by decide +kernel, rfl, by decide +kernel, by decide +kernel⟩
theorem scMinus : FnScope ["one", "other"] ["one", "other"] (defScope sMinus) := ⟨rfl, rfl, rfl, by decide +kernel, rfl, by decide +kernel, by decide +kernel⟩
theorem scTimes : FnScope ["one", "other"] ["one", "other"] (defScope sTimes) := ⟨rfl, rfl, rfl, by decide +kernel, rfl, by decide +kernel, by decide +kernel⟩
theorem mul_ne {q s : Int} (h1 : 0 < q) (h2 : 0 < s) : q * s ≠ 0 := Int.ne_of_gt (Int.mul_pos h1 h2)
theorem ok_plus {CB : Addr} (CN : Cal P w K mg base 3 "need_fraction" sNeed ["part", "value"] (spNeed K CB)) (CA : Cal P w K mg base 2 "added" sAdd ["one", "other"] (spAr K (fun p q r s => p * s + r * q) (fun p q r s => q * s))) {f : Addr} {fd : FuncData} (F : FunD K "plus" "plus" (defArgs sPlus) (defBody sPlus) (defScope sPlus) [] [] f fd) :
    FnOk P w K mg base (L2.CX P w) 4 f fd ["one", "other"] (spBin K CB (fun p q r s => p * s + r * q) (fun p q r s => q * s)) := by
  refine F.ok scPlus (fun vs H Q E h => ?_) (fun cdv A outer s H vs Q E hr h => ?_)
  · obtain ⟨_, _, _, _, rfl, _⟩ := h
    rfl
  · obtain ⟨v1, v2, d1, d2, rfl, r1, r2, hn, hy⟩ := h
    have tk := takes_of (X := cxOf (L2.CX P w) P w K mg base ["one", "other"] "plus" (defScope sPlus) f cdv A outer s H E) (E := E) rfl rfl rfl rfl
    refine ⟨_, pss_one (ps_ret (pe_cal (E := E) CA (bdTwo fun _ _ _ _ _ _ _ _ => rfl) hr (by decide) (passes_call tk fun _ _ _ _ h => h) (by rfl) (pa_cons (pe_cal (E := E) CN bdNeed hr (by decide) (passes_call tk fun _ _ _ _ h => h) (by rfl) (pa_cons pe_str (pa_cons (pv 0) pa_nil))) (pa_cons (pe_cal (E := E) CN bdNeed hr (by decide) (passes_call tk fun _ _ _ _ h => h) (by rfl) (pa_cons pe_str (pa_cons (pv 1) pa_nil))) pa_nil)))), ?_⟩
    exact bin_read rfl rfl r1 r2 hn (bin_fin (fun _ _ _ _ h1 h2 => mul_ne h1 h2) hy)
theorem ok_minus {CB : Addr} (CN : Cal P w K mg base 3 "need_fraction" sNeed ["part", "value"] (spNeed K CB)) (CA : Cal P w K mg base 2 "taken" sTak ["one", "other"] (spAr K (fun p q r s => p * s - r * q) (fun p q r s => q * s))) {f : Addr} {fd : FuncData} (F : FunD K "minus" "minus" (defArgs sMinus) (defBody sMinus) (defScope sMinus) [] [] f fd) :
    FnOk P w K mg base (L2.CX P w) 4 f fd ["one", "other"] (spBin K CB (fun p q r s => p * s - r * q) (fun p q r s => q * s)) := by
  refine F.ok scMinus (fun vs H Q E h => ?_) (fun cdv A outer s H vs Q E hr h => ?_)
  · obtain ⟨_, _, _, _, rfl, _⟩ := h
    rfl
  · obtain ⟨v1, v2, d1, d2, rfl, r1, r2, hn, hy⟩ := h
    have tk := takes_of (X := cxOf (L2.CX P w) P w K mg base ["one", "other"] "minus" (defScope sMinus) f cdv A outer s H E) (E := E) rfl rfl rfl rfl
    refine ⟨_, pss_one (ps_ret (pe_cal (E := E) CA (bdTwo fun _ _ _ _ _ _ _ _ => rfl) hr (by decide) (passes_call tk fun _ _ _ _ h => h) (by rfl) (pa_cons (pe_cal (E := E) CN bdNeed hr (by decide) (passes_call tk fun _ _ _ _ h => h) (by rfl) (pa_cons pe_str (pa_cons (pv 0) pa_nil))) (pa_cons (pe_cal (E := E) CN bdNeed hr (by decide) (passes_call tk fun _ _ _ _ h => h) (by rfl) (pa_cons pe_str (pa_cons (pv 1) pa_nil))) pa_nil)))), ?_⟩
    exact bin_read rfl rfl r1 r2 hn (bin_fin (fun _ _ _ _ h1 h2 => mul_ne h1 h2) hy)
theorem ok_times {CB : Addr} (CN : Cal P w K mg base 3 "need_fraction" sNeed ["part", "value"] (spNeed K CB)) (CA : Cal P w K mg base 2 "multiplied" sMul ["one", "other"] (spAr K (fun p q r s => p * r) (fun p q r s => q * s))) {f : Addr} {fd : FuncData} (F : FunD K "times" "times" (defArgs sTimes) (defBody sTimes) (defScope sTimes) [] [] f fd) :
    FnOk P w K mg base (L2.CX P w) 4 f fd ["one", "other"] (spBin K CB (fun p q r s => p * r) (fun p q r s => q * s)) := by
  refine F.ok scTimes (fun vs H Q E h => ?_) (fun cdv A outer s H vs Q E hr h => ?_)
  · obtain ⟨_, _, _, _, rfl, _⟩ := h
    rfl
  · obtain ⟨v1, v2, d1, d2, rfl, r1, r2, hn, hy⟩ := h
    have tk := takes_of (X := cxOf (L2.CX P w) P w K mg base ["one", "other"] "times" (defScope sTimes) f cdv A outer s H E) (E := E) rfl rfl rfl rfl
    refine ⟨_, pss_one (ps_ret (pe_cal (E := E) CA (bdTwo fun _ _ _ _ _ _ _ _ => rfl) hr (by decide) (passes_call tk fun _ _ _ _ h => h) (by rfl) (pa_cons (pe_cal (E := E) CN bdNeed hr (by decide) (passes_call tk fun _ _ _ _ h => h) (by rfl) (pa_cons pe_str (pa_cons (pv 0) pa_nil))) (pa_cons (pe_cal (E := E) CN bdNeed hr (by decide) (passes_call tk fun _ _ _ _ h => h) (by rfl) (pa_cons pe_str (pa_cons (pv 1) pa_nil))) pa_nil)))), ?_⟩
    exact bin_read rfl rfl r1 r2 hn (bin_fin (fun _ _ _ _ h1 h2 => mul_ne h1 h2) hy)
end
end K01

set_option Elab.async false
set_option linter.all false
set_option maxRecDepth 100000
set_option maxHeartbeats 4000000
/-! k01: over, order_of -/
namespace K01
open PySem PySem.Spec PyProof.Rows L2 DL
section
variable {P : Program} {w : World} {K : PySem.W.Frag} {mg : Str → Option Value} {base : Heap}
/-- two arguments, each through need_fraction -/
theorem two_read {CB : Addr} {σ : L2.St} {H : Hp} {v1 v2 : V} {d1 d2 : PyData} {Q : List V → Hp → Prop} {E : XK} (e1 : σ[0]? = some (some v1)) (e2 : σ[1]? = some (some v2)) (r1 : Rp K N0 H v1 d1) (r2 : Rp K N0 H v2 d2) (hn : frOf d1 = none → XB CB H E "one")
    (hy : ∀ p q, frOf d1 = some (p, q) → Sm 2000 p ∧ Sm 2000 q ∧ (frOf d2 = none → XB CB H E "other") ∧ ∀ r s, frOf d2 = some (r, s) → Sm 2000 r ∧ Sm 2000 s ∧
      ∀ t1 t2 H', Ex H H' → H t1 = none → H t2 = none → H' t1 = some (.tup [.int (red p q).1, .int (red p q).2]) → H' t2 = some (.tup [.int (red r s).1, .int (red r s).2]) → Q [.ref t1, .ref t2] H') :
    tCons (tCall (spNeed K CB) [] E (tCons (tC (.str "one")) (tCons (tVar 0) tNil))) (tCons (tCall (spNeed K CB) [] E (tCons (tC (.str "other")) (tCons (tVar 1) tNil))) tNil) σ H Q := by
  refine te_call (sp := spNeed K CB) (t := tCons (tC (.str "one")) (tCons (tVar 0) tNil)) (va2 val_c (val_var e1)) ⟨_, _, d1, rfl, r1, hn, fun p q h => ?_⟩
  obtain ⟨b1, b2, hn2, hy2⟩ := hy p q h
  refine ⟨sm_le (by decide) b2, fun t1 H1 x1 n1 a1 => ?_⟩
  refine te_call (sp := spNeed K CB) (t := tCons (tC (.str "other")) (tCons (tVar 1) tNil)) (va2 val_c (val_var e2)) ⟨_, _, d2, rfl, r2.ex x1, fun h2 => (hn2 h2).mono x1, fun r s h2 => ?_⟩
  obtain ⟨b3, b4, k⟩ := hy2 r s h2
  refine ⟨sm_le (by decide) b4, fun t2 H2 x2 n2 a2 => ?_⟩
  exact k t1 t2 H2 (x1.tr x2) n1 (x1.back n2) (x2 _ _ a1) a2
def spOver (K : PySem.W.Frag) (CB CM : Addr) : Sp := fun vs H Q E => ∃ (v1 v2 : V) (d1 d2 : PyData), vs = [v1, v2] ∧ Rp K N0 H v1 d1 ∧ Rp K N0 H v2 d2 ∧ (frOf d1 = none → XB CB H E "one") ∧
  ∀ p q, frOf d1 = some (p, q) → Sm 2000 p ∧ Sm 2000 q ∧ (frOf d2 = none → XB CB H E "other") ∧ ∀ r s, frOf d2 = some (r, s) → Sm 2000 r ∧ Sm 2000 s ∧
    (r = 0 → XB CM H E "other") ∧ (r ≠ 0 → NewP H Q (binF (fun p q r s => p * s) (fun p q r s => q * r) p q r s))
theorem red_zero {r s : Int} (h : s ≠ 0) : (red r s).1 = 0 ↔ r = 0 := by
  have e1 : (red r s).1 * cmn r s = r := fdiv_ex (cmn_dvd1 r s)
  have hc := cmn_ne (p := r) h
  constructor
  · intro z
    rw [z, Int.zero_mul] at e1
    exact e1.symm
  · intro z
    rw [z] at e1
    have e2 : (red r s).1 * cmn r s = 0 := by rw [z]; exact e1
    rcases Int.mul_eq_zero.mp e2 with h1 | h1
    · exact h1
    · exact absurd h1 hc
theorem scOver : FnScope ["one", "other", "first", "second"] ["one", "other"] (defScope sOver) := ⟨rfl, rfl, rfl, by decide +kernel, rfl, by decide +kernel, by decide +kernel⟩
theorem ok_over {CB CM : Addr} (TM : XCls P w K mg base "Misfit" "part" CM) (CN : Cal P w K mg base 3 "need_fraction" sNeed ["part", "value"] (spNeed K CB)) (CA : Cal P w K mg base 2 "divided" sDiv ["one", "other"] (spAr K (fun p q r s => p * s) (fun p q r s => q * r))) {f : Addr} {fd : FuncData}
    (F : FunD K "over" "over" (defArgs sOver) (defBody sOver) (defScope sOver) [] [] f fd) : FnOk P w K mg base (L2.CX P w) 4 f fd ["one", "other"] (spOver K CB CM) := by
  refine F.ok scOver (fun vs H Q E h => ?_) (fun cdv A outer s H vs Q E hr h => ?_)
  · obtain ⟨_, _, _, _, rfl, _⟩ := h
    rfl
  · obtain ⟨v1, v2, d1, d2, rfl, r1, r2, hn, hy⟩ := h
    have tk := takes_of (X := cxOf (L2.CX P w) P w K mg base ["one", "other", "first", "second"] "over" (defScope sOver) f cdv A outer s H E) (E := E) rfl rfl rfl rfl
    refine ⟨_, pss_cons (ps_par (i := 2) (j := 3) rfl scOver.nd rfl rfl (by decide) rfl rfl (pa_cons (pe_cal (E := E) CN bdNeed hr (by decide) (passes_call tk fun _ _ _ _ h => h) (by rfl) (pa_cons pe_str (pa_cons (pv 0) pa_nil))) (pa_cons (pe_cal (E := E) CN bdNeed hr (by decide) (passes_call tk fun _ _ _ _ h => h) (by rfl) (pa_cons pe_str (pa_cons (pv 1) pa_nil))) pa_nil)) (by rfl))
      (pss_cons (ps_if (pt_cmpR op_eq (pe_at (pv 3) pe_int (fun _ _ => rfl)) pe_int (nomark _)) (pss_one (ps_rz rfl TM hr (by decide) tk pe_str (by rfl))) pss_nil)
      (pss_one (ps_ret (pe_cal (E := E) CA (bdTwo fun _ _ _ _ _ _ _ _ => rfl) hr (by decide) (passes_call tk fun _ _ _ _ h => h) (by rfl) (pa_cons (pv 2) (pa_cons (pv 3) pa_nil)))))), ?_⟩
    refine sq_par (two_read (σ := start ["one", "other", "first", "second"] [v1, v2]) rfl rfl r1 r2 hn fun p q h => ?_)
    obtain ⟨b1, b2, hn2, hy2⟩ := hy p q h
    refine ⟨b1, b2, hn2, fun r t h2 => ?_⟩
    obtain ⟨b3, b4, k0, k1⟩ := hy2 r t h2
    have q0 := fr_pos h
    have s0 := fr_pos h2
    refine ⟨b3, b4, fun t1 t2 H' x n1 n2 a1 a2 => ⟨_, _, rfl, ?_⟩⟩
    refine sq_if (ans_eq (p0 (n := 3) rfl (pr_of a2)) val_c rfl rfl) ?_
    by_cases c : r = 0
    · rw [decide_eq_true (show V.int (red r t).1 = V.int 0 by rw [(red_zero (by omega)).mpr c])]
      refine iteT (show _ from ?_)
      exact fun dd H2 e2 n a => k0 c dd H2 (x.tr e2) (x.back n) a
    · have c' : (red r t).1 ≠ 0 := fun z => c ((red_zero (by omega)).mp z)
      rw [decide_eq_false (show ¬ V.int (red r t).1 = V.int 0 from fun z => c' (V.int.inj z))]
      refine iteF (rt_call (va2 (val_var rfl) (val_var rfl)) ?_)
      exact ⟨_, _, _, _, _, _, rfl, pr_of a1, pr_of a2, red_sm1 (by omega) b1, red_sm2 (by omega) b2, red_sm1 (by omega) b3, red_sm2 (by omega) b4, fun z => (Int.mul_eq_zero.mp z).elim (fun z1 => absurd (red_low (p := p) (q := q) (by omega)).pos (by omega)) c', (k1 c).mono x⟩
def spOrd (K : PySem.W.Frag) (CB : Addr) : Sp := fun vs H Q E => ∃ (v1 v2 : V) (d1 d2 : PyData), vs = [v1, v2] ∧ Rp K N0 H v1 d1 ∧ Rp K N0 H v2 d2 ∧ (frOf d1 = none → XB CB H E "one") ∧
  ∀ p q, frOf d1 = some (p, q) → Sm 2000 p ∧ Sm 2000 q ∧ (frOf d2 = none → XB CB H E "other") ∧ ∀ r s, frOf d2 = some (r, s) → Sm 2000 r ∧ Sm 2000 s ∧
    ∀ H', Ex H H' → Q (.int ((if decide ((red r s).1 * (red p q).2 < (red p q).1 * (red r s).2) then 1 else 0) - (if decide ((red p q).1 * (red r s).2 < (red r s).1 * (red p q).2) then 1 else 0))) H'
theorem scOrd : FnScope ["one", "other", "first", "second"] ["one", "other"] (defScope sOrd) := ⟨rfl, rfl, rfl, by decide +kernel, rfl, by decide +kernel, by decide +kernel⟩
theorem ok_ord (T : Nm mg) {CB : Addr} (CN : Cal P w K mg base 3 "need_fraction" sNeed ["part", "value"] (spNeed K CB)) (CL : Cal P w K mg base 1 "is_less" sLess ["one", "other"] (spLess K)) {f : Addr} {fd : FuncData}
    (F : FunD K "order_of" "order_of" (defArgs sOrd) (defBody sOrd) (defScope sOrd) [] [] f fd) : FnOk P w K mg base (L2.CX P w) 4 f fd ["one", "other"] (spOrd K CB) := by
  refine F.ok scOrd (fun vs H Q E h => ?_) (fun cdv A outer s H vs Q E hr h => ?_)
  · obtain ⟨_, _, _, _, rfl, _⟩ := h
    rfl
  · obtain ⟨v1, v2, d1, d2, rfl, r1, r2, hn, hy⟩ := h
    have tk := takes_of (X := cxOf (L2.CX P w) P w K mg base ["one", "other", "first", "second"] "order_of" (defScope sOrd) f cdv A outer s H E) (E := E) rfl rfl rfl rfl
    refine ⟨_, pss_cons (ps_par (i := 2) (j := 3) rfl scOrd.nd rfl rfl (by decide) rfl rfl (pa_cons (pe_cal (E := E) CN bdNeed hr (by decide) (passes_call tk fun _ _ _ _ h => h) (by rfl) (pa_cons pe_str (pa_cons (pv 0) pa_nil))) (pa_cons (pe_cal (E := E) CN bdNeed hr (by decide) (passes_call tk fun _ _ _ _ h => h) (by rfl) (pa_cons pe_str (pa_cons (pv 1) pa_nil))) pa_nil)) (by rfl))
      (pss_one (ps_ret (pe_op op_sub (pe_callTy call_int1 (by rfl) T.int (by decide +kernel) (pa_cons (pe_cal (E := E) CL (bdTwo fun _ _ _ _ _ _ _ _ => rfl) hr (by decide) (passes_call tk fun _ _ _ _ h => h) (by rfl) (pa_cons (pv 3) (pa_cons (pv 2) pa_nil))) pa_nil))
        (pe_callTy call_int1 (by rfl) T.int (by decide +kernel) (pa_cons (pe_cal (E := E) CL (bdTwo fun _ _ _ _ _ _ _ _ => rfl) hr (by decide) (passes_call tk fun _ _ _ _ h => h) (by rfl) (pa_cons (pv 2) (pa_cons (pv 3) pa_nil))) pa_nil))))), ?_⟩
    refine sq_par (two_read (σ := start ["one", "other", "first", "second"] [v1, v2]) rfl rfl r1 r2 hn fun p q h => ?_)
    obtain ⟨b1, b2, hn2, hy2⟩ := hy p q h
    refine ⟨b1, b2, hn2, fun r t h2 => ?_⟩
    obtain ⟨b3, b4, k⟩ := hy2 r t h2
    have q0 := fr_pos h
    have s0 := fr_pos h2
    refine ⟨b3, b4, fun t1 t2 H' x n1 n2 a1 a2 => ⟨_, _, rfl, ?_⟩⟩
    refine te_call (sp := spLess K) (t := tCons (tVar 3) (tCons (tVar 2) tNil)) (va2 (val_var rfl) (val_var rfl)) ?_
    refine ⟨_, _, _, _, _, _, rfl, pr_of a2, pr_of a1, red_sm1 (by omega) b3, red_sm2 (by omega) b4, red_sm1 (by omega) b1, red_sm2 (by omega) b2, .inr ⟨_, rfl, ?_⟩⟩
    refine te_call (sp := spLess K) (t := tCons (tVar 2) (tCons (tVar 3) tNil)) (va2 (val_var rfl) (val_var rfl)) ?_
    refine ⟨_, _, _, _, _, _, rfl, pr_of a1, pr_of a2, red_sm1 (by omega) b1, red_sm2 (by omega) b2, red_sm1 (by omega) b3, red_sm2 (by omega) b4, .inr ⟨_, rfl, ⟨_, _, rfl, rfl, k H' x⟩⟩⟩
end
end K01

set_option Elab.async false
set_option linter.all false
set_option maxRecDepth 100000
set_option maxHeartbeats 4000000
/-! k01: the law's own drawing -/
namespace K01
open PySem PySem.Spec PyProof.Rows L2 DL
abbrev sPen : Stmt := top 23
abbrev sDraw : Stmt := top 24
abbrev sPick : Stmt := top 25
theorem atI_ints {cells : List Int} {i : Int} (h0 : 0 ≤ i) (h1 : i < cells.length) : ∃ c, atI (cells.map V.int) i = some (.int c) := by
  obtain ⟨n, rfl⟩ : ∃ n : Nat, i = n := ⟨i.toNat, by omega⟩
  have hi : n < cells.length := by omega
  exact ⟨cells[n], atI_nat (by rw [List.getElem?_map, List.getElem?_eq_getElem hi]; rfl)⟩
theorem mod_rng {x m : Int} (h : 0 < m) : 0 ≤ x % m ∧ x % m < m := ⟨Int.emod_nonneg _ (by omega), Int.emod_lt_of_pos _ h⟩
section
variable {P : Program} {w : World} {K : PySem.W.Frag} {mg : Str → Option Value} {base : Heap}
theorem scDraw : FnScope ["pen", "many", "digit", "at", "cell", "great", "mixed"] ["pen", "many"] (defScope sDraw) := ⟨rfl, rfl, rfl, by decide +kernel, rfl, by decide +kernel, by decide +kernel⟩
/-- an item of the pen -/
theorem pi0 {σ : L2.St} {H : Hp} {pn c0 : Addr} {a l : Int} (e : σ[0]? = some (some (.ref pn))) (h : H pn = some (.lst [.ref c0, .int a, .int l])) : Val (tOp (rIxL K) (tVar 0) (tC (.int 0))) σ H (.ref c0) := vl_ixL (val_var e) val_c (SqL.of h) (atI_nat (j := 0) rfl)
theorem pi1 {σ : L2.St} {H : Hp} {pn c0 : Addr} {a l : Int} (e : σ[0]? = some (some (.ref pn))) (h : H pn = some (.lst [.ref c0, .int a, .int l])) : Val (tOp (rIxL K) (tVar 0) (tC (.int 1))) σ H (.int a) := vl_ixL (val_var e) val_c (SqL.of h) (atI_nat (j := 1) rfl)
theorem pi2 {σ : L2.St} {H : Hp} {pn c0 : Addr} {a l : Int} (e : σ[0]? = some (some (.ref pn))) (h : H pn = some (.lst [.ref c0, .int a, .int l])) : Val (tOp (rIxL K) (tVar 0) (tC (.int 2))) σ H (.int l) := vl_ixL (val_var e) val_c (SqL.of h) (atI_nat (j := 2) rfl)
theorem ok_draw (T : Nm mg) {f : Addr} {fd : FuncData} (F : FunD K "_law_draw" "_law_draw" (defArgs sDraw) (defBody sDraw) (defScope sDraw) [] [] f fd) : FnOk P w K mg base (L2.CX P w) 1 f fd ["pen", "many"] spDraw := by
  refine F.ok scDraw (fun vs H Q E h => ?_) (fun cdv A outer s H vs Q E hr h => ?_)
  · obtain ⟨_, _, _, _, _, _, rfl, _⟩ := h
    rfl
  · obtain ⟨pn, c0, cells, a, l, many, rfl, hp, ha, hm, hb, k⟩ := h
    have hd : ∀ x : Int, CDivW x many := fun x => wide_div hm hb (by decide) (by decide)
    refine ⟨_, pss_cons (ps_if (pt_cmpR op_gt (pe_ix ix_list (pv 0) pe_int (fun _ _ => rfl)) pe_int (nomark _))
        (pss_cons (ps_set (i := 2) scDraw.nd rfl (.inl rfl) (pe_op op_mod (pe_callTy call_int1 (by rfl) T.int (by decide +kernel) (pa_cons (pe_ix ix_list (pv 0) pe_int (fun _ _ => rfl)) pa_nil)) (pv 1)))
        (pss_cons (ps_asg (pe_op op_fdivW (pe_callTy call_int1 (by rfl) T.int (by decide +kernel) (pa_cons (pe_ix ix_list (pv 0) pe_int (fun _ _ => rfl)) pa_nil)) (pv 1)) (pg_sub (pv 0) pe_int set_list))
        (pss_one (ps_ret (pv 2))))) pss_nil)
      (pss_cons (ps_set (i := 3) scDraw.nd rfl (.inl rfl) (pe_ix ix_list (pv 0) pe_int (fun _ _ => rfl)))
      (pss_cons (ps_asg (pe_op op_add (pv 3) pe_int) (pg_sub (pv 0) pe_int set_list))
      (pss_cons (ps_set (i := 4) scDraw.nd rfl (.inl rfl) (pe_op op_add (pe_op op_mul pe_int (pv 3)) pe_int))
      (Evl.pss_cut (ps_if (pt_cmpR (op_neD hr.units) (pe_ix ix_list (pv 0) pe_int (fun _ _ => rfl)) (pe_lst pa_nil) (nomark _))
        (pss_one (ps_set (i := 4) scDraw.nd rfl (.inl rfl) (pe_ix ix_list (pe_ix ix_list (pv 0) pe_int (fun _ _ => rfl)) (pe_op op_mod (pe_callTy call_int1 (by rfl) T.int (by decide +kernel) (pa_cons (pv 3) pa_nil)) (pe_callB call_len (by rfl) T.len (by decide +kernel) (pa_cons (pe_ix ix_list (pv 0) pe_int (fun _ _ => rfl)) pa_nil))) (fun _ _ => rfl)))) pss_nil)
      (pss_cons (ps_if (PW.pt (pw_and (pt_cmpR op_lt (pv 3) (pe_callB call_len (by rfl) T.len (by decide +kernel) (pa_cons (pe_ix ix_list (pv 0) pe_int (fun _ _ => rfl)) pa_nil)) (nomark _)) (pw_and1 (pt_cmpR op_ge (pe_callB call_abs (by rfl) T.abs (by decide +kernel) (pa_cons (pv 4) pa_nil)) (pe_op op_pow pe_int pe_int) (nomark _)))))
        (pss_cons (ps_set (i := 5) scDraw.nd rfl (.inl rfl) (pe_op op_add (pe_op op_mul pe_int (pe_op op_sub (pe_callB call_abs (by rfl) T.abs (by decide +kernel) (pa_cons (pv 4) pa_nil)) (pe_op op_pow pe_int pe_int))) (pe_callTy call_int1 (by rfl) T.int (by decide +kernel) (pa_cons (pe_cmpR op_lt (pv 4) pe_int (nomark _)) pa_nil))))
        (pss_cons (ps_asg (pe_op op_fdivW (pe_callTy call_int1 (by rfl) T.int (by decide +kernel) (pa_cons (pv 5) pa_nil)) (pv 1)) (pg_sub (pv 0) pe_int set_list))
        (pss_one (ps_ret (pe_op op_mod (pe_callTy call_int1 (by rfl) T.int (by decide +kernel) (pa_cons (pv 5) pa_nil)) (pv 1)))))) pss_nil)
      (pss_cons (ps_set (i := 6) scDraw.nd rfl (.inl rfl) (pe_op op_mod (pe_callTy call_int1 (by rfl) T.int (by decide +kernel) (pa_cons (pe_op op_pow (pe_op op_add (pe_op op_add (pe_op op_mod (pe_callTy call_int1 (by rfl) T.int (by decide +kernel) (pa_cons (pv 4) pa_nil)) pe_int) (pe_op op_mul pe_int (pv 3))) pe_int) pe_int) pa_nil)) pe_int))
      (pss_cons (ps_set (i := 6) scDraw.nd rfl (.inl rfl) (pe_op op_mod (pe_callTy call_int1 (by rfl) T.int (by decide +kernel) (pa_cons (pe_op op_pow (pe_op op_add (pe_op op_add (pe_op op_mul (pv 6) (pe_op op_add (pe_op op_mul pe_int (pv 3)) pe_int)) (pe_op op_mul (pe_op op_mul pe_int (pv 3)) (pv 3))) pe_int) pe_int) pa_nil)) pe_int))
      (pss_one (ps_ret (pe_op op_mod (pe_callTy call_int1 (by rfl) T.int (by decide +kernel) (pa_cons (pe_op op_fdiv (pv 6) pe_int) pa_nil)) (pv 1))))))))))), ?_⟩
    have hpp := hp.p
    refine sq_if (an_I (g := fun i j => decide (j < i)) (pi2 rfl hpp) val_c) ?_
    refine ite2 (fun c => ?_) (fun c => ?_)
    · -- a digit of the great one
      have c' : 0 < l := of_decide_eq_true c
      refine sq_val (vl_mod (vl_int1 (pi2 rfl hpp)) (val_var rfl) hm) ?_
      refine sq_store 2 (vl_fdivW (vl_int1 (pi2 rfl hpp)) (val_var rfl) (hd l)) (val_var rfl) val_c hpp rfl ?_
      refine rt_val (val_var rfl) ?_
      exact k _ _ _ _ (mod_rng hm).1 (mod_rng hm).2 (Int.le_refl _) (by omega) ExB.upd (hp.exB ExB.upd upd_same hp.a0 hp.a1 (Int.ediv_nonneg hp.l0 (by omega)))
    · refine sq_val (pi1 rfl hpp) ?_
      refine sq_store 1 (vl_add (val_var rfl) val_c) (val_var rfl) val_c hpp rfl ?_
      have p1 : Pen (upd H pn (.lst [.ref c0, .int (a + 1), .int l])) pn c0 cells (a + 1) l := hp.exB ExB.upd upd_same (by have := hp.a0; omega) (by omega) hp.l0
      generalize hH1 : upd H pn (.lst [.ref c0, .int (a + 1), .int l]) = H1 at p1
      have hE1 : ExB pn H H1 := by rw [← hH1]; exact ExB.upd
      have e1 : upd H pn (.lst (([.ref c0, .int a, .int l] : List V).set 1 (.int (a + 1)))) = H1 := hH1
      rw [e1]
      have a0 := hp.a0
      have cA : CMul 7001 a := cm (by decide) (by decide)
      have cP : CPow 10 18 := cpw (by decide) (by decide) (by decide)
      refine sq_val (vl_add (vl_mul val_c (val_var rfl) cA) val_c) ?_
      refine sq_cut (fun σ' H' => ∃ c : Int, σ' = [some (.ref pn), some (.int many), none, some (.int a), some (.int c), none, none] ∧ Ex H1 H') ?_ ?_
      · refine pi0 rfl p1.p _ ⟨Nat.zero_le _, fun lq hl => ⟨.list (cells.map .int), .list [], .lst ((SqL.of p1.c : SqL K H1 c0 _) |> Evl.ex_l (ex_new hl)) (dp_ints _), .lst (SqL.of upd_same) .nil, ints_shaped _, by decide, _, rfl, ?_⟩⟩
        rw [eqv_nil]
        have x1 : Ex H1 (upd H1 lq (.lst [])) := ex_new hl
        have p2 := p1.ex x1
        cases cells with
        | nil => exact iteF ⟨_, rfl, x1⟩
        | cons c r =>
          refine iteT ?_
          have hn : (0 : Int) < (((c :: r).map V.int).length : Int) := by rw [List.length_map, List.length_cons]; omega
          obtain ⟨z, hz⟩ := atI_ints (cells := c :: r) (i := a % (((c :: r).map V.int).length : Int)) (mod_rng hn).1 (by have := (mod_rng (x := a) hn).2; rw [List.length_map] at this ⊢; exact this)
          refine (vl_ixL (K := K) (pi0 rfl p2.p) (vl_mod (vl_int1 (val_var rfl)) (vl_lenL (pi0 rfl p2.p) (SqL.of p2.c)) hn) (SqL.of p2.c) hz : Val _ _ _ _) _ ?_
          exact ⟨z, rfl, x1⟩
      · rintro σ' H5 ⟨c, rfl, x5⟩
        have p5 := p1.ex x5
        have e5 : ExB pn H H5 := hE1.tr (ExB.of x5)
        refine sq_if (ans_and2 (an_I (g := fun i j => decide (i < j)) (val_var rfl) (vl_lenL (pi0 rfl p5.p) (SqL.of p5.c))) (an_I (g := fun i j => decide (j ≤ i)) (vl_abs (val_var rfl)) (vl_pow val_c val_c cP))) ?_
        refine ite2 (fun q => ?_) (fun q => ?_)
        · obtain ⟨q1, q2⟩ := Bool.and_eq_true_iff.mp q
          have q2' := of_decide_eq_true q2
          have c2 : CMul 2 ((if c < 0 then -c else c) - (10 : Int) ^ ((18 : Int).toNat)) := cm (by decide) (by decide)
          refine sq_val (vl_add (vl_mul val_c (vl_sub (vl_abs (val_var rfl)) (vl_pow val_c val_c cP)) c2) (vl_intB (vl_lt (val_var rfl) val_c))) ?_
          refine sq_store 2 (vl_fdivW (vl_int1 (val_var rfl)) (val_var rfl) (hd _)) (val_var rfl) val_c p5.p rfl ?_
          refine rt_val (vl_mod (vl_int1 (val_var rfl)) (val_var rfl) hm) ?_
          refine k _ _ _ _ (mod_rng hm).1 (mod_rng hm).2 (by omega) (Int.le_refl _) (e5.tr ExB.upd) (p5.exB ExB.upd upd_same p5.a0 p5.a1 (Int.ediv_nonneg ?_ (by omega)))
          have h0 : (0 : Int) ≤ (if decide (c < 0) = true then 1 else 0) := by split <;> decide
          have h1 : (0 : Int) ≤ 2 * ((if c < 0 then -c else c) - (10 : Int) ^ ((18 : Int).toNat)) := by
            have : (10 : Int) ^ ((18 : Int).toNat) ≤ (if c < 0 then -c else c) := q2'
            omega
          exact Int.add_nonneg h1 h0
        · have m1 := mod_rng (x := c) (m := 2147483549) (by decide)
          have k1 : (0 : Int) < 2147483549 := by decide
          have k2 : (0 : Int) < 2147483629 := by decide
          have k3 : (0 : Int) < 2147483563 := by decide
          have c3 : CPow (c % 2147483549 + 7001 * a + 433) 3 := cpw (by decide) (by decide) (by omega)
          refine sq_val (vl_mod (vl_int1 (vl_pow (vl_add (vl_add (vl_mod (vl_int1 (val_var rfl)) val_c k1) (vl_mul val_c (val_var rfl) cA)) val_c) val_c c3)) val_c k2) ?_
          generalize hx : ((c % 2147483549 + 7001 * a + 433) ^ ((3 : Int).toNat)) % 2147483629 = x
          have m2 := mod_rng (x := (c % 2147483549 + 7001 * a + 433) ^ ((3 : Int).toNat)) (m := 2147483629) (by decide)
          rw [hx] at m2
          have b1 := pr_lt (x := x) (y := 2 * a + 127) (a := 2147483629) (b := 200127) (c := 2147483629 * 200127) m2.1 (by omega) (by omega) (by omega) (by omega)
          have b2 := pr_lt (x := 7001 * a) (y := a) (a := 7001 * 100000) (b := 100000) (c := 7001 * 100000 * 100000) (by omega) (by omega) (by omega) (by omega) (by omega)
          have d1 : CMul 2 a := cm (by decide) (by decide)
          have d2 : CMul x (2 * a + 127) := cm (by omega) (by omega)
          have d3 : CMul (7001 * a) a := cm (by omega) (by omega)
          have d4 : CPow (x * (2 * a + 127) + 7001 * a * a + 83) 5 := cpw (by decide) (by decide) (by omega)
          have d5 : ∀ z : Int, L2.CDiv z 16 := fun z => DL.cdv (by decide) (by decide)
          refine sq_val (vl_mod (vl_int1 (vl_pow (vl_add (vl_add (vl_mul (val_var rfl) (vl_add (vl_mul val_c (val_var rfl) d1) val_c) d2) (vl_mul (vl_mul val_c (val_var rfl) cA) (val_var rfl) d3)) val_c) val_c d4)) val_c k3) ?_
          refine rt_val (vl_mod (vl_int1 (vl_fdiv (val_var rfl) val_c (d5 _))) (val_var rfl) hm) ?_
          exact k _ _ _ _ (mod_rng hm).1 (mod_rng hm).2 (by omega) (Int.le_refl _) e5 p5
end
end K01

set_option Elab.async false
set_option linter.all false
set_option maxRecDepth 100000
set_option maxHeartbeats 4000000
/-! k01: the law's pen, pick, great -/
namespace K01
open PySem PySem.Spec PyProof.Rows L2 DL
abbrev sGreat : Stmt := top 26
abbrev sDivs : Stmt := top 27
abbrev sIs : Stmt := top 28
abbrev sFrac : Stmt := top 29
section
variable {P : Program} {w : World} {K : PySem.W.Frag} {mg : Str → Option Value} {base : Heap}
theorem cut_ints (ns : List Int) (lo hi : Option Int) : ∃ cs : List Int, cutV (ns.map V.int) lo hi = cs.map V.int ∧ cs.length ≤ ns.length := by
  refine ⟨(ns.drop (HT.sIx ns.length 0 lo)).take (HT.sIx ns.length ns.length hi - HT.sIx ns.length 0 lo), ?_, ?_⟩
  · unfold cutV
    rw [List.length_map, List.map_take, List.map_drop]
  · rw [List.length_take, List.length_drop]
    omega
/-! ### _law_pen -/
def spPen (K : PySem.W.Frag) : Sp := fun vs H Q _ => ∃ (p : Addr) (ns : List Int), vs = [.ref p] ∧ SqL K H p (ns.map V.int) ∧ ns.length ≤ 63 ∧ ∀ (pn c0 : Addr) (cells : List Int) (H' : Hp), Ex H H' → H pn = none → Pen H' pn c0 cells 0 0 → Q (.ref pn) H'
theorem scPen : FnScope ["script"] ["script"] (defScope sPen) := ⟨rfl, rfl, rfl, by decide +kernel, rfl, by decide +kernel, by decide +kernel⟩
theorem bdPen : Bd "_law_pen" sPen ["script"] := fun _ _ _ _ _ _ us hl => match us, hl with | [_], _ => rfl
theorem ok_pen (T : Nm mg) {f : Addr} {fd : FuncData} (F : FunD K "_law_pen" "_law_pen" (defArgs sPen) (defBody sPen) (defScope sPen) [] [] f fd) : FnOk P w K mg base (L2.CX P w) 1 f fd ["script"] (spPen K) := by
  refine F.ok scPen (fun vs H Q E h => ?_) (fun cdv A outer s H vs Q E hr h => ?_)
  · obtain ⟨_, _, rfl, _⟩ := h
    rfl
  · obtain ⟨p, ns, rfl, hs, hn, k⟩ := h
    refine ⟨_, pss_one (ps_ret (pe_lst (pa_cons (pe_callTy call_list_of (by rfl) T.list (by decide +kernel) (pa_cons (pe_slice sl_list (pv 0) po_none (po_some pe_int)) pa_nil)) (pa_cons pe_int (pa_cons pe_int pa_nil))))), ?_⟩
    obtain ⟨cs, hc, hl⟩ := cut_ints ns none (some 63)
    refine ⟨_, rfl, _, rfl, p, _, rfl, hs, fun q hq => ?_⟩
    rw [hc]
    refine ⟨q, _, rfl, .inl (SqL.of upd_same), fun l hl2 => ?_⟩
    refine ⟨by show 3 ≤ sizeLine; decide, fun pn hpn => ?_⟩
    have x1 : Ex H (upd H q (.lst (cs.map .int))) := ex_new hq
    have x2 := x1.tr (ex_new (o := .lst (cs.map V.int)) hl2)
    have x3 := x2.tr (ex_new (o := .lst [.ref l, .int 0, .int 0]) hpn)
    refine k pn l cs _ x3 (x2.back hpn) ⟨upd_same, ?_, Int.le_refl _, by decide, Int.le_refl _, Nat.le_trans hl hn⟩
    exact ex_new hpn _ _ upd_same
/-! ### _law_pick -/
def spPick : Sp := fun vs H Q _ => ∃ (pn c0 l : Addr) (xs : List V) (cells : List Int) (a lf : Int), vs = [.ref pn, .ref l] ∧ Pen H pn c0 cells a lf ∧ l ≠ pn ∧ H l = some (.lst xs) ∧ a < 100000 ∧ 0 < xs.length ∧ xs.length ≤ 1000 ∧
  ∀ (v : V) (a' l' : Int) (H' : Hp), v ∈ xs → a ≤ a' → a' ≤ a + 1 → ExB pn H H' → Pen H' pn c0 cells a' l' → Q v H'
theorem scPick : FnScope ["pen", "some"] ["pen", "some"] (defScope sPick) := ⟨rfl, rfl, rfl, by decide +kernel, rfl, by decide +kernel, by decide +kernel⟩
theorem bdDraw : Bd "_law_draw" sDraw ["pen", "many"] := fun _ _ _ _ _ _ us hl => match us, hl with | [_, _], _ => rfl
theorem bdPick : Bd "_law_pick" sPick ["pen", "some"] := fun _ _ _ _ _ _ us hl => match us, hl with | [_, _], _ => rfl
theorem ok_pick (T : Nm mg) (CD : Cal P w K mg base 1 "_law_draw" sDraw ["pen", "many"] spDraw) {f : Addr} {fd : FuncData} (F : FunD K "_law_pick" "_law_pick" (defArgs sPick) (defBody sPick) (defScope sPick) [] [] f fd) : FnOk P w K mg base (L2.CX P w) 2 f fd ["pen", "some"] spPick := by
  refine F.ok scPick (fun vs H Q E h => ?_) (fun cdv A outer s H vs Q E hr h => ?_)
  · obtain ⟨_, _, _, _, _, _, _, rfl, _⟩ := h
    rfl
  · obtain ⟨pn, c0, l, xs, cells, a, lf, rfl, hp, hne, hl, ha, h0, h1, k⟩ := h
    refine ⟨_, pss_one (ps_ret (pe_ix ix_list (pv 1) (pe_cal CD bdDraw hr (by decide) passL (by rfl) (pa_cons (pv 0) (pa_cons (pe_callB call_len (by rfl) T.len (by decide +kernel) (pa_cons (pv 1) pa_nil)) pa_nil))) (fun _ _ => rfl))), ?_⟩
    refine ⟨_, rfl, ?_⟩
    refine te_call (sp := spDraw) (va2 (val_var rfl) (vl_lenL (val_var rfl) (SqL.of hl))) ⟨pn, c0, cells, a, lf, _, rfl, hp, ha, by omega, ?_, fun d a' l' H' d0 d1 b0 b1 e p' => ?_⟩
    · have e : (2 : Nat) ^ 10 ≤ 2 ^ 8000 := Nat.pow_le_pow_right (by decide) (by decide)
      have e2 : (2 : Nat) ^ 10 = 1024 := by decide
      rw [Int.natAbs_natCast]
      omega
    · obtain ⟨n, rfl⟩ : ∃ n : Nat, d = n := ⟨d.toNat, by omega⟩
      have hi : n < xs.length := by omega
      exact ⟨l, xs, n, _, rfl, rfl, SqL.of (e _ _ hne hl), atI_nat (List.getElem?_eq_getElem hi), k _ _ _ _ (List.getElem_mem hi) b0 b1 e p'⟩
/-! ### _law_great -/
def GreatQ (H : Hp) (Q : VK) (pn c0 : Addr) (cells : List Int) (a n : Int) : Prop := ∀ (g a' l' : Int) (H' : Hp), g.natAbs < 2 ^ 136 → a ≤ a' → a' ≤ a + n → ExB pn H H' → Pen H' pn c0 cells a' l' → Q (.int g) H'
def spGreat : Sp := fun vs H Q _ => ∃ (pn c0 : Addr) (cells : List Int) (a lf : Int), vs = [.ref pn] ∧ Pen H pn c0 cells a lf ∧ a < 99990 ∧ GreatQ H Q pn c0 cells a 4
theorem scGreat : FnScope ["pen", "size"] ["pen"] (defScope sGreat) := ⟨rfl, rfl, rfl, by decide +kernel, rfl, by decide +kernel, by decide +kernel⟩
theorem bdGreat : Bd "_law_great" sGreat ["pen"] := fun _ _ _ _ _ _ us hl => match us, hl with | [_], _ => rfl
/-- a pick from a list just written -/
theorem te_pick {σ : L2.St} {H : Hp} {Q : VK} {E : XK} {pn c0 : Addr} {cells : List Int} {a lf : Int} {ta : TA} {xs : List V} (hv : σ[0]? = some (some (.ref pn))) (hx : VA ta σ H xs) (hp : Pen H pn c0 cells a lf) (ha : a < 100000) (h0 : 0 < xs.length) (h1 : xs.length ≤ 1000)
    (k : ∀ (v : V) (a' l' : Int) (H' : Hp), v ∈ xs → a ≤ a' → a' ≤ a + 1 → ExB pn H H' → Pen H' pn c0 cells a' l' → Q v H') : tCall spPick [] E (tCons (tVar 0) (tCons (tLst ta) tNil)) σ H Q := by
  refine ⟨_, hv, ?_⟩
  refine hx _ ⟨by show xs.length ≤ sizeLine; exact Nat.le_trans h1 (by decide), fun l hl => ?_⟩
  have x1 : Ex H (upd H l (.lst xs)) := ex_new hl
  exact ⟨pn, c0, l, xs, cells, a, lf, rfl, hp.ex x1, (fun z => by rw [z, hp.p] at hl; cases hl), upd_same, ha, h0, h1, fun v a' l' H' hm b0 b1 e p' => k v a' l' H' hm b0 b1 ((ExB.of x1).tr e) p'⟩
theorem n_mul {x y : Int} {a b c : Nat} (hx : x.natAbs < 2 ^ a) (hy : y.natAbs < 2 ^ b) (h : a + b ≤ c) : (x * y).natAbs < 2 ^ c :=
  Nat.lt_of_lt_of_le (wide_lt hx hy) (Nat.pow_le_pow_right (by decide) h)
theorem n_le {x : Int} {a b : Nat} (hx : x.natAbs < 2 ^ a) (h : a ≤ b) : x.natAbs < 2 ^ b := Nat.lt_of_lt_of_le hx (Nat.pow_le_pow_right (by decide) h)
theorem n_lt {x y : Int} {a : Nat} (h0 : 0 ≤ x) (h : x < y) (ha : y.natAbs < 2 ^ a) : x.natAbs < 2 ^ a := Nat.lt_of_le_of_lt (by omega) ha
theorem ok_great (CD : Cal P w K mg base 1 "_law_draw" sDraw ["pen", "many"] spDraw) (CK : Cal P w K mg base 2 "_law_pick" sPick ["pen", "some"] spPick) {f : Addr} {fd : FuncData} (F : FunD K "_law_great" "_law_great" (defArgs sGreat) (defBody sGreat) (defScope sGreat) [] [] f fd) :
    FnOk P w K mg base (L2.CX P w) 3 f fd ["pen"] spGreat := by
  refine F.ok scGreat (fun vs H Q E h => ?_) (fun cdv A outer s H vs Q E hr h => ?_)
  · obtain ⟨_, _, _, _, _, rfl, _⟩ := h
    rfl
  · obtain ⟨pn, c0, cells, a, lf, rfl, hp, ha, k⟩ := h
    refine ⟨_, pss_cons (ps_set (i := 1) scGreat.nd rfl (.inl rfl) (pe_cal CK bdPick hr (by decide) passL (by rfl) (pa_cons (pv 0) (pa_cons (pe_lst (pa_cons pe_int (pa_cons pe_int (pa_cons pe_int (pa_cons pe_int (pa_cons (pe_op op_pow pe_int pe_int) pa_nil)))))) pa_nil))))
      (pss_one (ps_ret (pe_op op_mulW (pe_op op_mulW (pe_cal CD bdDraw hr (by decide) passL (by rfl) (pa_cons (pv 0) (pa_cons (pv 1) pa_nil))) (pe_cal CK bdPick hr (by decide) passL (by rfl) (pa_cons (pv 0) (pa_cons (pe_lst (pa_cons pe_int (pa_cons pe_int (pa_cons (pe_op op_pow pe_int pe_int) pa_nil)))) pa_nil))))
        (pe_cal CK bdPick hr (by decide) passL (by rfl) (pa_cons (pv 0) (pa_cons (pe_lst (pa_cons pe_int (pa_cons (pe_un un_neg pe_int) pa_nil))) pa_nil)))))), ?_⟩
    have cp : CPow 10 20 := cpw (by decide) (by decide) (by decide)
    refine sq_set (te_pick rfl (va_cons val_c (va_cons val_c (va_cons val_c (va_cons val_c (va1 (vl_pow val_c val_c cp)))))) hp (by omega) (by decide) (by decide) fun v a1 l1 H1 hm b0 b1 e1 p1 => ?_)
    have hs : ∃ s : Int, v = .int s ∧ 0 < s ∧ s.natAbs < 2 ^ 67 := by
      simp only [List.mem_cons, List.mem_nil_iff, or_false] at hm
      rcases hm with rfl | rfl | rfl | rfl | rfl
      · exact ⟨_, rfl, by decide, by decide⟩
      · exact ⟨_, rfl, by decide, by decide⟩
      · exact ⟨_, rfl, by decide, by decide⟩
      · exact ⟨_, rfl, by decide, by decide⟩
      · exact ⟨_, rfl, by decide, by decide⟩
    obtain ⟨z, rfl, z0, z1⟩ := hs
    refine te_call (sp := spDraw) (va2 (val_var rfl) (val_var rfl)) ⟨pn, c0, cells, a1, l1, z, rfl, p1, by omega, z0, n_le z1 (by decide), fun d a2 l2 H2 d0 d1 b2 b3 e2 p2 => ?_⟩
    refine te_pick rfl (va_cons val_c (va2 val_c (vl_pow val_c val_c cp))) p2 (by omega) (by decide) (by decide) fun v a3 l3 H3 hm b4 b5 e3 p3 => ?_
    have hs : ∃ s : Int, v = .int s ∧ s.natAbs < 2 ^ 67 := by
      simp only [List.mem_cons, List.mem_nil_iff, or_false] at hm
      rcases hm with rfl | rfl | rfl
      · exact ⟨_, rfl, by decide⟩
      · exact ⟨_, rfl, by decide⟩
      · exact ⟨_, rfl, by decide⟩
    obtain ⟨y, rfl, y1⟩ := hs
    have d2 : d.natAbs < 2 ^ 67 := n_lt d0 d1 z1
    refine ⟨_, _, rfl, rfl, wide_mul d2 y1 (by decide) (by decide) (by decide), ?_⟩
    refine te_pick rfl (va2 val_c (vl_neg val_c)) p3 (by omega) (by decide) (by decide) fun v a4 l4 H4 hm b6 b7 e4 p4 => ?_
    have hs : ∃ s : Int, v = .int s ∧ s.natAbs < 2 ^ 1 := by
      simp only [List.mem_cons, List.mem_nil_iff, or_false] at hm
      rcases hm with rfl | rfl
      · exact ⟨_, rfl, by decide⟩
      · exact ⟨_, rfl, by decide⟩
    obtain ⟨x, rfl, x1⟩ := hs
    have dy := n_mul d2 y1 (c := 134) (by decide)
    refine ⟨_, _, rfl, rfl, wide_mul dy x1 (by decide) (by decide) (by decide), ?_⟩
    exact k _ _ _ _ (n_mul dy x1 (by decide)) (by omega) (by omega) (((e1.tr e2).tr e3).tr e4) p4
/-! ### _law_fraction -/
def spFrac : Sp := fun vs H Q _ => ∃ (pn c0 : Addr) (cells : List Int) (a lf : Int), vs = [.ref pn] ∧ Pen H pn c0 cells a lf ∧ a < 99980 ∧
  ∀ (x y a' l' : Int) (t : Addr) (H' : Hp), x.natAbs < 2 ^ 136 → y.natAbs < 2 ^ 137 → 0 < y → a ≤ a' → a' ≤ a + 8 → ExB pn H H' → Pen H' pn c0 cells a' l' → H t = none → H' t = some (.tup [.int x, .int y]) → Q (.ref t) H'
theorem scFrac : FnScope ["pen"] ["pen"] (defScope sFrac) := ⟨rfl, rfl, rfl, by decide +kernel, rfl, by decide +kernel, by decide +kernel⟩
theorem bdFrac : Bd "_law_fraction" sFrac ["pen"] := fun _ _ _ _ _ _ us hl => match us, hl with | [_], _ => rfl
theorem ExB.back {pn : Addr} {H H' : Hp} {t : Addr} (e : ExB pn H H') (h : H' t = none) (hn : t ≠ pn) : H t = none := by
  cases c : H t with
  | none => rfl
  | some o => exact absurd (e _ _ hn c) (by rw [h]; exact fun z => by cases z)
theorem ok_frac (T : Nm mg) (CG : Cal P w K mg base 3 "_law_great" sGreat ["pen"] spGreat) {f : Addr} {fd : FuncData} (F : FunD K "_law_fraction" "_law_fraction" (defArgs sFrac) (defBody sFrac) (defScope sFrac) [] [] f fd) : FnOk P w K mg base (L2.CX P w) 4 f fd ["pen"] spFrac := by
  refine F.ok scFrac (fun vs H Q E h => ?_) (fun cdv A outer s H vs Q E hr h => ?_)
  · obtain ⟨_, _, _, _, _, rfl, _⟩ := h
    rfl
  · obtain ⟨pn, c0, cells, a, lf, rfl, hp, ha, k⟩ := h
    refine ⟨_, pss_one (ps_ret (pe_tup (pa_cons (pe_cal CG bdGreat hr (by decide) passL (by rfl) (pa_cons (pv 0) pa_nil)) (pa_cons (pe_op op_add pe_int (pe_callB call_abs (by rfl) T.abs (by decide +kernel) (pa_cons (pe_cal CG bdGreat hr (by decide) passL (by rfl) (pa_cons (pv 0) pa_nil)) pa_nil))) pa_nil)))), ?_⟩
    refine te_call (sp := spGreat) (va1 (val_var rfl)) ⟨pn, c0, cells, a, lf, rfl, hp, by omega, fun x a1 l1 H1 x1 b0 b1 e1 p1 => ?_⟩
    refine te_call (sp := spGreat) (va1 (val_var rfl)) ⟨pn, c0, cells, a1, l1, rfl, p1, by omega, fun y a2 l2 H2 y1 b2 b3 e2 p2 => ?_⟩
    refine ⟨y, rfl, ⟨1, _, rfl, rfl, by show 2 ≤ sizeLine; decide, fun t ht => ?_⟩⟩
    have ht2 : t ≠ pn := fun z => by rw [z, p2.p] at ht; cases ht
    have e3 := (e1.tr e2)
    have x3 : Ex H2 (upd H2 t (.tup [.int x, .int (1 + (if y < 0 then -y else y))])) := ex_new ht
    refine k x (1 + (if y < 0 then -y else y)) a2 l2 t _ x1 ?_ ?_ (by omega) (by omega) (e3.tr (ExB.of x3)) (p2.ex x3) (ExB.back e3 ht ht2) upd_same
    · have e : (2 : Nat) ^ 137 = 2 ^ 136 + 2 ^ 136 := by decide
      split <;> omega
    · split <;> omega
end
end K01

set_option Elab.async false
set_option linter.all false
set_option maxRecDepth 100000
set_option maxHeartbeats 4000000
namespace DL
open PySem PySem.Spec PyProof.Rows L2
section
variable {K : PySem.W.Frag} {σ : L2.St} {H : Hp} {te ta tb ti : TE} {v u x y : V} {i j : Int}
theorem vl_ixT {p : Addr} {xs : List V} (ha : Val ta σ H (.ref p)) (hi : Val ti σ H (.int i)) (h : SqT K H p xs) (hz : atI xs i = some u) : Val (tOp (rIxT K) ta ti) σ H u := val_op ha hi fun Q q => ⟨p, xs, i, u, rfl, rfl, h, hz, q⟩
theorem vl_eq (ha : Val ta σ H x) (hb : Val tb σ H y) (hs : scal x y = true) : Val (tOp rEq ta tb) σ H (.bl (decide (x = y))) := val_op ha hb fun Q q => ⟨hs, q⟩
end
end DL
/-! k01: the law's divisor, and what it takes for a fraction in lowest terms -/
namespace K01
open PySem PySem.Spec PyProof.Rows L2 DL
section
variable {P : Program} {w : World} {K : PySem.W.Frag} {mg : Str → Option Value} {base : Heap}
/-! ### _law_divisor -/
def spDivs : Sp := fun vs H Q _ => ∃ a b : Int, vs = [.int a, .int b] ∧ Q (.int (Nat.gcd a.natAbs b.natAbs : Nat)) H
theorem scDivs : FnScope ["one", "other"] ["one", "other"] (defScope sDivs) := ⟨rfl, rfl, rfl, by decide +kernel, rfl, by decide +kernel, by decide +kernel⟩
theorem bdDivs : Bd "_law_divisor" sDivs ["one", "other"] := fun _ _ _ _ _ _ us hl => match us, hl with | [_, _], _ => rfl
theorem ok_divs (T : Nm mg) {f : Addr} {fd : FuncData} (F : FunD K "_law_divisor" "_law_divisor" (defArgs sDivs) (defBody sDivs) (defScope sDivs) [] [] f fd) : FnOk P w K mg base (L2.CX P w) 1 f fd ["one", "other"] spDivs := by
  refine F.ok scDivs (fun vs H Q E h => ?_) (fun cdv A outer s H vs Q E hr h => ?_)
  · obtain ⟨_, _, rfl, _⟩ := h
    rfl
  · obtain ⟨a, b, rfl, k⟩ := h
    refine ⟨_, pss_cons (ps_par (i := 0) (j := 1) rfl scDivs.nd rfl rfl (by decide) rfl rfl (pa_cons (pe_callB call_abs (by rfl) T.abs (by decide +kernel) (pa_cons (pv 0) pa_nil)) (pa_cons (pe_callB call_abs (by rfl) T.abs (by decide +kernel) (pa_cons (pv 1) pa_nil)) pa_nil)) (by rfl))
      (pss_cons (ps_while (passes_of rfl) (pt_cmpR op_gt (pv 1) pe_int (nomark _))
        (pss_one (ps_par (i := 0) (j := 1) rfl scDivs.nd rfl rfl (by decide) rfl rfl (pa_cons (pv 1) (pa_cons (pe_op op_mod (pe_callTy call_int1 (by rfl) T.int (by decide +kernel) (pa_cons (pv 0) pa_nil)) (pv 1)) pa_nil)) (by rfl))))
      (pss_one (ps_ret (pv 0)))), ?_⟩
    refine sq_par (va2 (vl_abs (val_var rfl)) (vl_abs (val_var rfl)) _ ⟨_, _, rfl, ?_⟩)
    refine while_by (fun σ H' => H' = H ∧ ∃ x y : Int, σ = [some (.int x), some (.int y)] ∧ 0 ≤ x ∧ 0 ≤ y ∧ Nat.gcd x.natAbs y.natAbs = Nat.gcd a.natAbs b.natAbs)
      (fun σ _ => match σ with | [_, some (.int y)] => y.toNat | _ => 0) ?_ ?_ ?_
    · refine ⟨rfl, _, _, rfl, by split <;> omega, by split <;> omega, ?_⟩
      have e : ∀ z : Int, (if z < 0 then -z else z).natAbs = z.natAbs := fun z => by split <;> omega
      rw [e, e]
    · rintro σ H' ⟨rfl, x, y, rfl, x0, y0, g⟩
      refine ⟨_, rfl, y, 0, rfl, rfl, _, rfl, ?_⟩
      refine ite2 (fun c => ?_) (fun c => ?_)
      · have c' : 0 < y := of_decide_eq_true c
        refine va2 (val_var rfl) (vl_mod (vl_int1 (val_var rfl)) (val_var rfl) c') _ ⟨_, _, rfl, ?_⟩
        have m := mod_rng (x := x) c'
        refine ⟨⟨rfl, y, x % y, rfl, y0, m.1, ?_⟩, ?_⟩
        · rw [← g, Nat.gcd_comm x.natAbs, Nat.gcd_rec y.natAbs x.natAbs]
          have e : (x % y).natAbs = x.natAbs % y.natAbs := by
            obtain ⟨n, rfl⟩ : ∃ n : Nat, x = n := ⟨x.toNat, by omega⟩
            obtain ⟨k, rfl⟩ : ∃ n : Nat, y = n := ⟨y.toNat, by omega⟩
            rfl
          rw [e, Nat.gcd_comm]
        · show (x % y).toNat < y.toNat
          omega
      · have c' : ¬ 0 < y := fun z => c (decide_eq_true z)
        have hy : y = 0 := by omega
        subst hy
        refine rt_val (val_var rfl) ?_
        have e : (Nat.gcd a.natAbs b.natAbs : Int) = x := by
          rw [← g]
          show ((Nat.gcd x.natAbs 0 : Nat) : Int) = x
          rw [Nat.gcd_zero_right]
          omega
        rw [e] at k
        exact k
    · exact fun σ H' Q1 Q2 h0 h1 => by
        obtain ⟨v, e, i, j, e1, e2, c, e3, q⟩ := h1
        exact ⟨v, e, i, j, e1, e2, c, e3, h0 _ _ q⟩
/-! ### _law_is -/
def spIs : Sp := fun vs H Q _ => ∃ (t : Addr) (p q a b : Int), vs = [.ref t, .int p, .int q] ∧ H t = some (.tup [.int a, .int b]) ∧ Low p q a b ∧ Sm 6000 p ∧ Sm 6000 q ∧ Sm 6000 a ∧ Sm 6000 b ∧ ∀ H', Ex H H' → Q (.bl true) H'
theorem scIs : FnScope ["value", "p", "q", "one"] ["value", "p", "q"] (defScope sIs) := ⟨rfl, rfl, rfl, by decide +kernel, rfl, by decide +kernel, by decide +kernel⟩
theorem bdIs : Bd "_law_is" sIs ["value", "p", "q"] := fun _ _ _ _ _ _ us hl => match us, hl with | [_, _, _], _ => rfl
theorem ok_is (T : Nm mg) (CD : Cal P w K mg base 1 "_law_divisor" sDivs ["one", "other"] spDivs) {f : Addr} {fd : FuncData} (F : FunD K "_law_is" "_law_is" (defArgs sIs) (defBody sIs) (defScope sIs) [] [] f fd) : FnOk P w K mg base (L2.CX P w) 2 f fd ["value", "p", "q"] spIs := by
  refine F.ok scIs (fun vs H Q E h => ?_) (fun cdv A outer s H vs Q E hr h => ?_)
  · obtain ⟨_, _, _, _, _, rfl, _⟩ := h
    rfl
  · obtain ⟨t, p, q, a, b, rfl, ht, lo, bp, bq, ba, bb, k⟩ := h
    refine ⟨_, pss_cons (ps_if (PW.pt (pw_or (pt_not (pt_val (pe_callB call_isi (by rfl) T.isi (by decide +kernel) (pa_cons (pv 0) (pa_cons (pe_bltn (v := .ty "tuple") (by rfl) T.tuple (by decide +kernel) rfl) pa_nil)))))
        (pw_or (pt_cmpR op_ne (pe_callB call_len (by rfl) T.len (by decide +kernel) (pa_cons (pv 0) pa_nil)) pe_int (nomark _))
        (pw_or1 (pt_cmpR (op_neD hr.units) (pe_lc (own := [("one", 3)]) (g := gName 3) rfl scIs.nd (pi_tup (pv 0)) (blkOk_by (own := [("one", 3)]) (N := ["value", "p", "q", "one"]) (sc := defScope sIs) (by decide +kernel)) (fun _ _ _ _ _ => pg_name (i := 3) scIs.nd rfl (Or.inl rfl))
          (fun _ _ _ _ _ => pts_one (PW.pt (pw_or (pt_not (pt_val (pe_callB (id := "isinstance") (r := rIsi K) call_isi (by rfl) T.isi (by decide +kernel) (pa_cons (pv 3) (pa_cons (pe_bltn (v := .ty "int") (by rfl) T.int (by decide +kernel) rfl) pa_nil)))))
            (pw_or1 (pt_val (pe_callB (id := "isinstance") (r := rIsi K) call_isi (by rfl) T.isi (by decide +kernel) (pa_cons (pv 3) (pa_cons (pe_bltn (v := .ty "bool") (by rfl) T.bool (by decide +kernel) rfl) pa_nil))))))))
          (fun _ _ _ _ _ => pv 3)) (pe_lst pa_nil) (nomark _))))))
        (pss_one (ps_ret pe_bl)) pss_nil)
      (pss_one (ps_ret (pe_and (pe_cmpR op_gt (pe_ix ix_tup (pv 0) pe_int (fun _ _ => rfl)) pe_int (nomark _)) (pe_and (pe_cmpR op_eq (pe_op op_mulW (pe_ix ix_tup (pv 0) pe_int (fun _ _ => rfl)) (pv 2)) (pe_op op_mulW (pv 1) (pe_ix ix_tup (pv 0) pe_int (fun _ _ => rfl))) (nomark _))
        (pe_one (pe_cmpR op_eq (pe_cal CD bdDivs hr (by decide) passL (by rfl) (pa_cons (pe_ix ix_tup (pv 0) pe_int (fun _ _ => rfl)) (pa_cons (pe_ix ix_tup (pv 0) pe_int (fun _ _ => rfl)) pa_nil))) pe_int (nomark _))))))), ?_⟩
    have hv : Rp K N0 H (.ref t) (.tuple (two a b)) := pr_of (f := (a, b)) ht
    have kt : PySem.W.kitOne K (.type (tyN (PyData.tuple (two a b)))) (.type "tuple") = some true := by rw [kit_tuple, isTy_tuple]
    have ki : ∀ z : Int, PySem.W.kitOne K (.type (tyN (PyData.int z))) (.type "int") = some true := fun z => by rw [kit_int, isTy_int]
    have kb : ∀ z : Int, PySem.W.kitOne K (.type (tyN (PyData.int z))) (.type "bool") = some false := fun z => by rw [kit_bool, isTy_bool]
    refine ⟨_, rfl, _, _, _, _, _, rfl, .ty _, hv.ty, kt, true, rfl, iteF ?_⟩
    refine ans_ne (b := false) (vl_lenT (val_var rfl) (SqT.of ht)) val_c rfl rfl _ (iteF ?_)
    refine ⟨_, rfl, t, rfl, ⟨_, SqT.of ht⟩, fun D hD => lc_tup (xs := [.int a, .int b]) (fun _ H' => H' = upd H D (.lst [])) rfl (fun i H' _ e => by rw [e]; exact SqT.of (ex_new hD _ _ ht)) (fun i x H' hi e => ?_) (fun H' e => ?_)⟩
    · subst e
      have hx : ∃ z : Int, x = .int z := by
        match i, hi with
        | 0, hi => exact ⟨a, (Option.some.inj hi).symm⟩
        | 1, hi => exact ⟨b, (Option.some.inj hi).symm⟩
        | i + 2, hi => cases hi
      obtain ⟨z, rfl⟩ := hx
      have hz : TyX K (upd H D (.lst [])) (.int z) (.type (tyN (.int z))) := Rp.ty (N := N0) (.int z)
      refine ⟨rfl, ?_⟩
      refine ⟨_, rfl, _, _, _, _, _, rfl, .ty _, hz, ki z, true, rfl, iteF ?_⟩
      refine ⟨_, rfl, _, _, _, _, _, rfl, .ty _, hz, kb z, false, rfl, iteF rfl⟩
    · subst e
      refine ⟨Nat.zero_le _, fun lq hl => ⟨.list (([] : List Int).map .int), .list [], .lst (Evl.ex_l (ex_new hl) (SqL.of upd_same)) .nil, .lst (SqL.of upd_same) .nil, ints_shaped [], by decide, _, rfl, ?_⟩⟩
      rw [eqv_nil]
      refine iteF ?_
      have x1 : Ex H (upd H D (.lst [])) := ex_new hD
      have x2 := x1.tr (ex_new (o := .lst []) hl)
      have ht2 := x2 _ _ ht
      generalize upd (upd H D (.lst [])) lq (.lst []) = H2 at x2 ht2
      refine vl_I0 (vl_ixT (val_var rfl) val_c (SqT.of ht2) (atI_nat (j := 1) rfl)) val_c _ ⟨true, by rw [decide_eq_true lo.pos], iteT ?_⟩
      have m1 : CMulW a q := wide_mul ba bq (by decide) (by decide) (by decide)
      have m2 : CMulW p b := wide_mul bp bb (by decide) (by decide) (by decide)
      refine vl_eq (vl_mulW (vl_ixT (val_var rfl) val_c (SqT.of ht2) (atI_nat (j := 0) rfl)) (val_var rfl) m1) (vl_mulW (val_var rfl) (vl_ixT (val_var rfl) val_c (SqT.of ht2) (atI_nat (j := 1) rfl)) m2) rfl _ ⟨true, by rw [decide_eq_true (show V.int (a * q) = V.int (p * b) by rw [lo.eq])], iteT ?_⟩
      refine te_call (sp := spDivs) (va2 (vl_ixT (val_var rfl) val_c (SqT.of ht2) (atI_nat (j := 0) rfl)) (vl_ixT (val_var rfl) val_c (SqT.of ht2) (atI_nat (j := 1) rfl))) ⟨a, b, rfl, ?_⟩
      refine ⟨rfl, ?_⟩
      rw [decide_eq_true (show V.int (Nat.gcd a.natAbs b.natAbs : Nat) = V.int 1 by rw [lo.one]; rfl)]
      exact k _ x2
end
end K01

set_option Elab.async false
set_option linter.all false
set_option maxRecDepth 100000
set_option maxHeartbeats 4000000
/-! k01: the law's hearing of a lambda -/
namespace K01
open PySem PySem.Spec PyProof.Rows L2 DL
abbrev sHeard : Stmt := top 30
/-- the own errors' classes -/
structure Errs (K : PySem.W.Frag) (mg : Str → Option Value) (CS CB CM : Addr) : Prop where
  gS : mg "MarbleError" = some (.ref CS)
  gB : mg "BadValue" = some (.ref CB)
  gM : mg "Misfit" = some (.ref CM)
  xB : XcC K CB
  xM : XcC K CM
  nB : PySem.W.findIn K (.ref CB) "part" = some none
  nM : PySem.W.findIn K (.ref CM) "part" = some none
  bS : PySem.W.exmOne K (.ref CB) (.ref CS) = some true
  mS : PySem.W.exmOne K (.ref CM) (.ref CS) = some true
  bb : PySem.W.kitOne K (.ref CB) (.ref CB) = some true
  bm : PySem.W.kitOne K (.ref CB) (.ref CM) = some false
  mb : PySem.W.kitOne K (.ref CM) (.ref CB) = some false
  mm : PySem.W.kitOne K (.ref CM) (.ref CM) = some true
section
variable {P : Program} {w : World} {K : PySem.W.Frag} {mg : Str → Option Value} {base : Heap}
def HeardX (CB CM l : Addr) (Q : VK) : XK := fun cls d H' => ∃ (C dd : Addr) (v : V) (nm : Str), cls = .ref C ∧ d = some dd ∧ H' dd = some (.xd [("part", v)]) ∧ H' l = some (.lst []) ∧ ((C = CB ∧ nm = "badvalue") ∨ (C = CM ∧ nm = "misfit")) ∧
  ∀ t H'', ExB l H' H'' → H' t = none → H'' t = some (.tup [.str nm, v]) → Q (.ref t) H''
def TTh (CB CM : Addr) : (XK → Hp → VK → Prop) → Hp → VK → Prop := fun tl H Q =>
  ∀ l, H l = none → ∀ (E : XK) (Qf : VK), (∀ cls d H', HeardX CB CM l Q cls d H' → E cls d H') → (∀ v H', (∀ p, H' p = none → Q (.ref p) (upd H' p (.lst [v]))) → Qf v H') → tl E (upd H l (.lst [])) Qf
abbrev nHeard : List Str := ["ask", "found", "caught", "told", "error"]
theorem scHeard : FnScope nHeard ["ask"] (defScope sHeard) := ⟨rfl, rfl, rfl, by decide +kernel, rfl, by decide +kernel, by decide +kernel⟩
theorem heard_gives {X : Cx} (T : Nm X.mg) {CS CB CM : Addr} (S : Errs X.K X.mg CS CB CM) {g : Addr} {cdg : Value} {q : Str} :
    GivesW X nHeard "_law_heard" (defScope sHeard) g cdg (defBody sHeard) "ask" q (TTh CB CM) := by
  intro f c' s H Q tl act hc h
  have hgl : ∀ {e : Str}, (defScope sHeard).names.lookup e = some .globalImplicit → Gl (cxOf C8.CX0 X.prog X.w X.K X.mg X.base nHeard "_law_heard" (defScope sHeard) g cdg X.A X.stack s H C8.E0).nox e := fun h => h
  refine ⟨_, pss_cons (ps_par3 (i := 1) (j := 2) (l := 3) rfl scHeard.nd rfl rfl rfl (by decide) (by decide) (by decide) rfl rfl rfl (pa_cons pe_non (pa_cons pe_non (pa_cons (pe_lst pa_nil) pa_nil))) (by rfl))
    (pss_cons (ps_try_keep (X := (cxOf C8.CX0 X.prog X.w X.K X.mg X.base nHeard "_law_heard" (defScope sHeard) g cdg X.A X.stack s H C8.E0).nox) (i := 4) (c := .ref CS)
        (tb := fun W D σ H => ∃ Ech : XK, (∀ cls d H', Ech cls d H' → W cls d σ H') ∧ σ[0]? = some (some (.ref f)) ∧ H c' = some (LamX.CodeO c' q) ∧ tl Ech H fun v H1 => D.nx (σ.set 1 (some v)) H1)
        (ts := fun _ _ _ => tAsg (tVar 4) (gName 2)) rfl rfl scHeard.nd rfl rfl ⟨hgl rfl, by decide, .inl S.gS⟩ LamX.takes0 rfl (fun W pn xe tk _ => ?_) (fun a oe cls d pn _ _ => pss_one (ps_set (i := 2) scHeard.nd rfl (.inl rfl) (pv 4))))
    (pss_cons (ps_if (pt_cmpR op_isN1 (pv 2) pe_non (nomark _)) (pss_one (ps_ret (pe_lst (pa_cons (pv 1) pa_nil)))) pss_nil)
    (pss_cons (ps_if (pt_val (pe_callB call_isX (by rfl) T.isi (by decide +kernel) (pa_cons (pv 2) (pa_cons (pe_glob (v := .ref CB) (by rfl) S.gB rfl) pa_nil))))
      (pss_one (ps_expr (pe_bm PySem.F.plainAttrs_list PySem.F.slot_list_append PySem.F.type_list_append mt_append (pv 3) (pa_cons (pe_tup (pa_cons pe_str (pa_cons (pe_xcf (pv 2)) pa_nil))) pa_nil)))) pss_nil)
    (pss_cons (ps_if (pt_val (pe_callB call_isX (by rfl) T.isi (by decide +kernel) (pa_cons (pv 2) (pa_cons (pe_glob (v := .ref CM) (by rfl) S.gM rfl) pa_nil))))
      (pss_one (ps_expr (pe_bm PySem.F.plainAttrs_list PySem.F.slot_list_append PySem.F.type_list_append mt_append (pv 3) (pa_cons (pe_tup (pa_cons pe_str (pa_cons (pe_xcf (pv 2)) pa_nil))) pa_nil)))) pss_nil)
    (pss_one (ps_ret (pe_ifExp (pt_cmpR op_eq (pe_callB call_len (by rfl) T.len (by decide +kernel) (pa_cons (pv 3) pa_nil)) pe_int (nomark _)) (pe_ix ix_list (pv 3) pe_int (fun _ _ => rfl)) (pe_tup (pa_cons pe_str pa_nil))))))))), ?_⟩
  · refine ⟨fun pins s' σ H' D I h' => ?_⟩
    obtain ⟨Ech, hW, h1, h2, h3⟩ := h'
    exact (pss_one (ps_set (i := 1) scHeard.nd rfl (.inl rfl) (act W pn xe Ech _ _ tk))).run pins s' σ H' D I ⟨h1, h2, hW, h3⟩
  · refine ⟨Nat.zero_le _, fun l hl => ⟨_, _, _, rfl, ?_⟩⟩
    have hcl : c' ≠ l := fun z => by rw [z, hl] at hc; cases hc
    refine ⟨HeardX CB CM l Q, ?_, rfl, by rw [upd_ne hcl]; exact hc, h l hl _ _ (fun _ _ _ z => z) ?_⟩
    · rintro cls d H1 ⟨C, dd, v, nm, rfl, rfl, hdd, hl1, hC, k⟩
      rcases hC with ⟨rfl, rfl⟩ | ⟨rfl, rfl⟩
      · refine ⟨true, S.bS, fun _ a na => ?_, fun z => by cases z⟩
        refine ⟨_, rfl, na, ?_⟩
        have x1 : Ex H1 (upd H1 a (XcO (.ref C) (some dd) a)) := ex_new na
        have ha : upd H1 a (XcO (.ref C) (some dd) a) a = some (XcO (.ref C) (some dd) a) := upd_same
        have hdd2 := x1 _ _ hdd
        have hl2 := x1 _ _ hl1
        generalize upd H1 a (XcO (.ref C) (some dd) a) = H2 at x1 ha hdd2 hl2
        refine ⟨_, rfl, rfl, ⟨false, rfl, iteF ?_⟩⟩
        refine ⟨_, rfl, a, C, dd, _, .ref C, .ref C, true, rfl, ha, hdd2, S.xB, .own _, S.bb, true, rfl, iteT ?_⟩
        refine ⟨_, rfl, .inl ⟨rfl, _, SqL.of hl2⟩, ?_⟩
        refine ⟨_, rfl, a, C, dd, _, v, rfl, ha, hdd2, S.xB, S.nB, rfl, by show 2 ≤ sizeLine; decide, fun t ht => ?_⟩
        have x3 : Ex H2 (upd H2 t (.tup [.str "badvalue", v])) := ex_new ht
        have ht3 : upd H2 t (.tup [.str "badvalue", v]) t = some (.tup [.str "badvalue", v]) := upd_same
        have hl3 := x3 _ _ hl2
        have ha3 := x3 _ _ ha
        have hdd3 := x3 _ _ hdd2
        generalize upd H2 t (.tup [.str "badvalue", v]) = H3 at x3 ht3 hl3 ha3 hdd3
        refine ⟨l, [], _, rfl, rfl, hl3, by show 0 < sizeLine; decide, ?_⟩
        have ntl : t ≠ l := fun z => by rw [z, hl2] at ht; cases ht
        have nal : a ≠ l := fun z => by rw [z, hl3] at ha3; cases ha3
        have ndl : dd ≠ l := fun z => by rw [z, hl3] at hdd3; cases hdd3
        have e4 : ExB l H3 (upd H3 l (.lst ([] ++ [.ref t]))) := ExB.upd
        have hl4 : upd H3 l (.lst ([] ++ [.ref t])) l = some (.lst [.ref t]) := upd_same
        have ha4 := e4 _ _ nal ha3
        have hd4 := e4 _ _ ndl hdd3
        have ht4 := e4 _ _ ntl ht3
        generalize upd H3 l (.lst ([] ++ [.ref t])) = H4 at e4 hl4 ha4 hd4 ht4
        refine ⟨_, rfl, a, C, dd, _, .ref CM, .ref CM, false, rfl, ha4, hd4, S.xB, .own _, S.bm, false, rfl, iteF ?_⟩
        refine ans_eq (b := true) (vl_lenL (val_var rfl) (SqL.of hl4)) val_c rfl rfl _ (iteT ?_)
        refine vl_ixL (val_var rfl) val_c (SqL.of hl4) (atI_nat (j := 0) rfl) _ ?_
        exact k t H4 (((ExB.of x1).tr (ExB.of x3)).tr e4) (x1.back ht) ht4
      · refine ⟨true, S.mS, fun _ a na => ?_, fun z => by cases z⟩
        refine ⟨_, rfl, na, ?_⟩
        have x1 : Ex H1 (upd H1 a (XcO (.ref C) (some dd) a)) := ex_new na
        have ha : upd H1 a (XcO (.ref C) (some dd) a) a = some (XcO (.ref C) (some dd) a) := upd_same
        have hdd2 := x1 _ _ hdd
        have hl2 := x1 _ _ hl1
        generalize upd H1 a (XcO (.ref C) (some dd) a) = H2 at x1 ha hdd2 hl2
        refine ⟨_, rfl, rfl, ⟨false, rfl, iteF ?_⟩⟩
        refine ⟨_, rfl, a, C, dd, _, .ref CB, .ref CB, false, rfl, ha, hdd2, S.xM, .own _, S.mb, false, rfl, iteF ?_⟩
        refine ⟨_, rfl, a, C, dd, _, .ref C, .ref C, true, rfl, ha, hdd2, S.xM, .own _, S.mm, true, rfl, iteT ?_⟩
        refine ⟨_, rfl, .inl ⟨rfl, _, SqL.of hl2⟩, ?_⟩
        refine ⟨_, rfl, a, C, dd, _, v, rfl, ha, hdd2, S.xM, S.nM, rfl, by show 2 ≤ sizeLine; decide, fun t ht => ?_⟩
        have x3 : Ex H2 (upd H2 t (.tup [.str "misfit", v])) := ex_new ht
        have ht3 : upd H2 t (.tup [.str "misfit", v]) t = some (.tup [.str "misfit", v]) := upd_same
        have hl3 := x3 _ _ hl2
        generalize upd H2 t (.tup [.str "misfit", v]) = H3 at x3 ht3 hl3
        refine ⟨l, [], _, rfl, rfl, hl3, by show 0 < sizeLine; decide, ?_⟩
        have ntl : t ≠ l := fun z => by rw [z, hl2] at ht; cases ht
        have e4 : ExB l H3 (upd H3 l (.lst ([] ++ [.ref t]))) := ExB.upd
        have hl4 : upd H3 l (.lst ([] ++ [.ref t])) l = some (.lst [.ref t]) := upd_same
        have ht4 := e4 _ _ ntl ht3
        generalize upd H3 l (.lst ([] ++ [.ref t])) = H4 at e4 hl4 ht4
        refine ans_eq (b := true) (vl_lenL (val_var rfl) (SqL.of hl4)) val_c rfl rfl _ (iteT ?_)
        refine vl_ixL (val_var rfl) val_c (SqL.of hl4) (atI_nat (j := 0) rfl) _ ?_
        exact k t H4 (((ExB.of x1).tr (ExB.of x3)).tr e4) (x1.back ht) ht4
    · intro v H' k
      refine ⟨_, rfl, rfl, ⟨true, rfl, iteT ?_⟩⟩
      refine ⟨_, rfl, by show 1 ≤ sizeLine; decide, fun p hp => k p hp⟩
end
end K01

set_option Elab.async false
set_option linter.all false
set_option maxRecDepth 100000
set_option maxHeartbeats 4000000
/-! k01: the law's right -/
namespace K01
open PySem PySem.Spec PyProof.Rows L2 DL
abbrev sRight : Stmt := top 31
section
variable {P : Program} {w : World} {K : PySem.W.Frag} {mg : Str → Option Value} {base : Heap}
/-- the def _law_heard stands there -/
def HeardD (K : PySem.W.Frag) (mg : Str → Option Value) : Prop := ∃ (f : Addr) (fd : FuncData), mg "_law_heard" = some (.ref f) ∧ FunD K "_law_heard" "_law_heard" (defArgs sHeard) (defBody sHeard) (defScope sHeard) [] [] f fd
theorem bdHeard : Bd "_law_heard" sHeard ["ask"] := fun _ _ _ _ _ _ us hl => match us, hl with | [_], _ => rfl
theorem pe_heard {X : Cx} (N : Nm X.mg) {CS CB CM : Addr} (S : Errs X.K X.mg CS CB CM) (HD : HeardD X.K X.mg) {T : List (Addr × Str)} {c P : Addr} {k : Nat} {params : Arguments} {body : Expr} {scope : Scope} {t : XK → TE} {p lpos pos : Pos} (hg : Gl X "_law_heard")
    (TB : LamX.TabB X.base X.mg c P) (hcode : X.env.code = .ref c) (hmT : (P, X.env.qual ++ "<lambda>") ∈ T) (hu : ∀ p ∈ T, p.1 = P → p.2 = X.env.qual ++ "<lambda>") (hr : Room (k + 2) X.A) (L : LamX.LamS X.env.scope scope) (hdef : defaultsOf params X.env = ([], []))
    (hbind : ∀ (q : Str) (cl : List (Str × Addr)) (pm cv ctv : Value), bindArgs (PySem.W.kla_fn "<lambda>" q params body scope cl pm cv ctv) ⟨[], []⟩ = pure [])
    (hbody : ∀ (A : Around) (outer : List Env) (s : Shared) (H : Hp) (E : XK) (f c' : Addr), Room k (A.deeper (LamX.lamEnv X scope s.heap.objs.size f c')) → PE (LamX.lamCx X A outer s H E scope f c') body (t E)) :
    PE X (.Call (.Name "_law_heard" p) [.Lambda params body scope lpos] [] pos) (LamX.tLam T (TTh CB CM) t) := by
  obtain ⟨f, fd, hm, F⟩ := HD
  have hb := F.bindsN (ps := ["ask"]) bdHeard
  have hk := F.kp
  obtain ⟨oc, od, dV, kV, doc, pm, an, cdv, ct, osl, rfl, lk, hcd, _, _⟩ := F.ex
  exact pe_lamN hg hm hk lk hcd hb scHeard rfl (.inl rfl) (heard_gives N S) TB hcode hmT hu hr L hdef hbind hbody
theorem pe_heardD {X : Cx} (N : Nm X.mg) {CS CB CM : Addr} (S : Errs X.K X.mg CS CB CM) (HD : HeardD X.K X.mg) {T : List (Addr × Str)} {c P : Addr} {k : Nat} {kp : Str} {params : Arguments} {body : Expr} {scope : Scope} {t : XK → TE} {p lpos pos : Pos} {iv : Int} {ij : Nat} {ip : Pos} (hg : Gl X "_law_heard")
    (TB : LamX.TabB X.base X.mg c P) (hcode : X.env.code = .ref c) (hmT : (P, X.env.qual ++ "<lambda>") ∈ T) (hu : ∀ p ∈ T, p.1 = P → p.2 = X.env.qual ++ "<lambda>") (hr : Room (k + 2) X.A) (L : LamSD X.env.scope scope kp) (hpN : kp ∉ X.N)
    (hdef : defaultsOf params X.env = ([eval (.Constant (.int iv) ij ip) X.env], [])) (hkw : params.kwonlyargs = [])
    (hbind : ∀ (q : Str) (cl : List (Str × Addr)) (tp : Addr) (pm cv ctv v : Value), ∃ k, bindArgs (fnD q params body scope cl (.ref tp) pm cv ctv) ⟨[], []⟩ = seqItems? (.ref tp) >>= k ∧ k (some #[v]) = pure [(kp, v)])
    (hbody : ∀ (A : Around) (outer : List Env) (s : Shared) (H : Hp) (E : XK) (f c' : Addr), Room k (A.deeper (LamX.lamEnv X scope s.heap.objs.size f c')) → PE (LamX.lamCx X A outer s H E scope f c') body (t E)) :
    PE X (.Call (.Name "_law_heard" p) [.Lambda params body scope lpos] [] pos) (LamX.tLam T (TTh CB CM) t) := by
  obtain ⟨f, fd, hm, F⟩ := HD
  have hb := F.bindsN (ps := ["ask"]) bdHeard
  have hk := F.kp
  obtain ⟨oc, od, dV, kV, doc, pm, an, cdv, ct, osl, rfl, lk, hcd, _, _⟩ := F.ex
  exact pe_lamW hg hm hk lk hcd hb scHeard rfl (.inl rfl) (heard_gives N S) TB hcode hmT hu hr L hpN hdef hkw hbind hbody
/-! ### _law_right -/
abbrev qRight : Str := (("_law_right" : Str) ++ ".<locals>.") ++ "<lambda>"
abbrev nRight : List Str := ["one", "other", "a", "b", "c", "d", "found"]
theorem scRight : FnScope nRight ["one", "other"] (defScope sRight) := ⟨rfl, rfl, rfl, by decide +kernel, rfl, by decide +kernel, by decide +kernel⟩
def spRight (T : List (Addr × Str)) : Sp := fun vs H Q _ => ∃ (t1 t2 : Addr) (a b c d : Int), vs = [.ref t1, .ref t2] ∧ H t1 = some (.tup [.int a, .int b]) ∧ H t2 = some (.tup [.int c, .int d]) ∧ 0 < b ∧ 0 < d ∧ Sm 400 a ∧ Sm 400 b ∧ Sm 400 c ∧ Sm 400 d ∧ LamX.Tabs T H ∧
  ∀ H', ExN H H' → LamX.Tabs T H' → Q (.bl true) H'
/-- what the program's defs are -/
structure Prog (P : Program) (w : World) (K : PySem.W.Frag) (mg : Str → Option Value) (base : Heap) (CB CM : Addr) : Prop where
  low : Cal P w K mg base 3 "lowest" sLow ["p", "q"] (spLow K CB)
  plus : Cal P w K mg base 4 "plus" sPlus ["one", "other"] (spBin K CB (fun p q r s => p * s + r * q) (fun p q r s => q * s))
  minus : Cal P w K mg base 4 "minus" sMinus ["one", "other"] (spBin K CB (fun p q r s => p * s - r * q) (fun p q r s => q * s))
  times : Cal P w K mg base 4 "times" sTimes ["one", "other"] (spBin K CB (fun p q r s => p * r) (fun p q r s => q * s))
  over : Cal P w K mg base 4 "over" sOver ["one", "other"] (spOver K CB CM)
  ord : Cal P w K mg base 4 "order_of" sOrd ["one", "other"] (spOrd K CB)
theorem bdLow : Bd "lowest" sLow ["p", "q"] := fun _ _ _ _ _ _ us hl => match us, hl with | [_, _], _ => rfl
end
end K01

set_option Elab.async false
set_option linter.all false
set_option maxHeartbeats 4000000
namespace K01
open PySem DL
theorem Low.cross {n m n' m' x y : Int} (h : Low n m x y) (hm : m ≠ 0) (e : n * m' = n' * m) : Low n' m' x y := by
  refine ⟨h.pos, ?_, h.one⟩
  have h1 := h.eq
  have h2 : (x * m') * m = (n' * y) * m := by grind
  exact Int.eq_of_mul_eq_mul_right hm h2
theorem cr_plus {a b c d a1 b1 c1 d1 : Int} (h1 : a1 * b = a * b1) (h2 : c1 * d = c * d1) : (a1 * d1 + c1 * b1) * (b * d) = (a * d + c * b) * (b1 * d1) := by grind
theorem cr_minus {a b c d a1 b1 c1 d1 : Int} (h1 : a1 * b = a * b1) (h2 : c1 * d = c * d1) : (a1 * d1 - c1 * b1) * (b * d) = (a * d - c * b) * (b1 * d1) := by grind
theorem cr_times {a b c d a1 b1 c1 d1 : Int} (h1 : a1 * b = a * b1) (h2 : c1 * d = c * d1) : (a1 * c1) * (b * d) = (a * c) * (b1 * d1) := by grind
theorem cr_over {a b c d a1 b1 c1 d1 : Int} (h1 : a1 * b = a * b1) (h2 : c1 * d = c * d1) : (a1 * d1) * (b * c) = (a * d) * (b1 * c1) := by grind
theorem low_plus {a b c d : Int} (hb : 0 < b) (hd : 0 < d) : Low (a * d + c * b) (b * d) (binF (fun p q r s => p * s + r * q) (fun p q r s => q * s) a b c d).1 (binF (fun p q r s => p * s + r * q) (fun p q r s => q * s) a b c d).2 := by
  have l1 := red_low (p := a) (q := b) (by omega)
  have l2 := red_low (p := c) (q := d) (by omega)
  have hm : (red a b).2 * (red c d).2 ≠ 0 := Int.ne_of_gt (Int.mul_pos l1.pos l2.pos)
  exact (red_low hm).cross hm (cr_plus l1.eq l2.eq)
theorem low_minus {a b c d : Int} (hb : 0 < b) (hd : 0 < d) : Low (a * d - c * b) (b * d) (binF (fun p q r s => p * s - r * q) (fun p q r s => q * s) a b c d).1 (binF (fun p q r s => p * s - r * q) (fun p q r s => q * s) a b c d).2 := by
  have l1 := red_low (p := a) (q := b) (by omega)
  have l2 := red_low (p := c) (q := d) (by omega)
  have hm : (red a b).2 * (red c d).2 ≠ 0 := Int.ne_of_gt (Int.mul_pos l1.pos l2.pos)
  exact (red_low hm).cross hm (cr_minus l1.eq l2.eq)
theorem low_times {a b c d : Int} (hb : 0 < b) (hd : 0 < d) : Low (a * c) (b * d) (binF (fun p q r s => p * r) (fun p q r s => q * s) a b c d).1 (binF (fun p q r s => p * r) (fun p q r s => q * s) a b c d).2 := by
  have l1 := red_low (p := a) (q := b) (by omega)
  have l2 := red_low (p := c) (q := d) (by omega)
  have hm : (red a b).2 * (red c d).2 ≠ 0 := Int.ne_of_gt (Int.mul_pos l1.pos l2.pos)
  exact (red_low hm).cross hm (cr_times l1.eq l2.eq)
theorem low_over {a b c d : Int} (hb : 0 < b) (hd : 0 < d) (hc : c ≠ 0) : Low (a * d) (b * c) (binF (fun p q r s => p * s) (fun p q r s => q * r) a b c d).1 (binF (fun p q r s => p * s) (fun p q r s => q * r) a b c d).2 := by
  have l1 := red_low (p := a) (q := b) (by omega)
  have l2 := red_low (p := c) (q := d) (by omega)
  have hc1 : (red c d).1 ≠ 0 := fun z => hc ((red_zero (by omega)).mp z)
  have hm : (red a b).2 * (red c d).1 ≠ 0 := fun z => (Int.mul_eq_zero.mp z).elim (fun z => by have := l1.pos; omega) hc1
  exact (red_low hm).cross hm (cr_over l1.eq l2.eq)
theorem low_flip {a b : Int} (hb : 0 < b) : Low (-a) b (red a (-b)).1 (red a (-b)).2 := by
  have l1 := red_low (p := a) (q := -b) (by omega)
  exact l1.cross (by omega) (by grind)
theorem lt_cross {u v k m : Int} (hk : 0 < k) (hm : 0 < m) (e : u * k = v * m) : (0 < u ↔ 0 < v) := by
  constructor
  · intro h
    have : 0 < u * k := Int.mul_pos h hk
    rw [e, Int.mul_comm] at this
    exact Int.pos_of_mul_pos_right this hm
  · intro h
    have : 0 < v * m := Int.mul_pos h hm
    rw [← e, Int.mul_comm] at this
    exact Int.pos_of_mul_pos_right this hk
theorem ord_cross {a b c d : Int} (hb : 0 < b) (hd : 0 < d) : ((red c d).1 * (red a b).2 < (red a b).1 * (red c d).2 ↔ c * b < a * d) ∧ ((red a b).1 * (red c d).2 < (red c d).1 * (red a b).2 ↔ a * d < c * b) := by
  have l1 := red_low (p := a) (q := b) (by omega)
  have l2 := red_low (p := c) (q := d) (by omega)
  have e1 := cr_minus l1.eq l2.eq
  have k1 : 0 < b * d := Int.mul_pos hb hd
  have k2 : 0 < (red a b).2 * (red c d).2 := Int.mul_pos l1.pos l2.pos
  have r1 := lt_cross k1 k2 e1
  have e2 : ((red c d).1 * (red a b).2 - (red a b).1 * (red c d).2) * (b * d) = (c * b - a * d) * ((red a b).2 * (red c d).2) := by grind
  have r2 := lt_cross k1 k2 e2
  generalize (red c d).1 * (red a b).2 = m1 at *
  generalize (red a b).1 * (red c d).2 = m2 at *
  generalize c * b = m3 at *
  generalize a * d = m4 at *
  omega
end K01

set_option Elab.async false
set_option linter.all false
set_option maxRecDepth 100000
set_option maxHeartbeats 4000000
/-! k01: the law's right, read -/
namespace K01
open PySem PySem.Spec PyProof.Rows L2 DL
section
variable {P : Program} {w : World} {K : PySem.W.Frag} {mg : Str → Option Value} {base : Heap}
theorem sm_add {x y : Int} {n : Nat} (hx : Sm n x) (hy : Sm n y) : Sm (n + 1) (x + y) := by
  have e : (2 : Nat) ^ (n + 1) = 2 ^ n + 2 ^ n := by rw [Nat.pow_succ]; omega
  show (x + y).natAbs < _
  have h1 : x.natAbs < 2 ^ n := hx
  have h2 : y.natAbs < 2 ^ n := hy
  omega
theorem sm_neg {x : Int} {n : Nat} (hx : Sm n x) : Sm n (-x) := by
  show (-x).natAbs < _
  rw [Int.natAbs_neg]
  exact hx
theorem sm_sub {x y : Int} {n : Nat} (hx : Sm n x) (hy : Sm n y) : Sm (n + 1) (x - y) := sm_add hx (sm_neg hy)
theorem mw {x y : Int} (hx : Sm 1000 x) (hy : Sm 1000 y) : CMulW x y := wide_mul hx hy (by decide) (by decide) (by decide)
/-- a pair that stands there, or a list of two that was just made -/
theorem fr_tup {p q : Int} (h : 0 < q) : frOf (.tuple (two p q)) = some (p, q) := if_pos h
theorem fr_lst {p q : Int} (h : 0 < q) : frOf (.list (two p q)) = some (p, q) := if_pos h
theorem sp_bin {CB : Addr} {f g : Int → Int → Int → Int → Int} {H : Hp} {v1 v2 : V} {d1 d2 : PyData} {a b c d : Int} {Q : VK} {E : XK} (r1 : Rp K N0 H v1 d1) (r2 : Rp K N0 H v2 d2) (e1 : frOf d1 = some (a, b)) (e2 : frOf d2 = some (c, d)) (sa : Sm 2000 a) (sb : Sm 2000 b) (sc : Sm 2000 c) (sd : Sm 2000 d) (k : NewP H Q (binF f g a b c d)) :
    spBin K CB f g [v1, v2] H Q E := by
  refine ⟨v1, v2, d1, d2, rfl, r1, r2, (fun z => by rw [e1] at z; cases z), fun p q z => ?_⟩
  rw [e1] at z
  cases z
  refine ⟨sa, sb, (fun z => by rw [e2] at z; cases z), fun r s z => ?_⟩
  rw [e2] at z
  cases z
  exact ⟨sc, sd, k⟩
theorem sp_over {CB CM : Addr} {H : Hp} {v1 v2 : V} {d1 d2 : PyData} {a b c d : Int} {Q : VK} {E : XK} (r1 : Rp K N0 H v1 d1) (r2 : Rp K N0 H v2 d2) (e1 : frOf d1 = some (a, b)) (e2 : frOf d2 = some (c, d)) (sa : Sm 2000 a) (sb : Sm 2000 b) (sc : Sm 2000 c) (sd : Sm 2000 d)
    (k0 : c = 0 → XB CM H E "other") (k : c ≠ 0 → NewP H Q (binF (fun p q r s => p * s) (fun p q r s => q * r) a b c d)) : spOver K CB CM [v1, v2] H Q E := by
  refine ⟨v1, v2, d1, d2, rfl, r1, r2, (fun z => by rw [e1] at z; cases z), fun p q z => ?_⟩
  rw [e1] at z
  cases z
  refine ⟨sa, sb, (fun z => by rw [e2] at z; cases z), fun r s z => ?_⟩
  rw [e2] at z
  cases z
  exact ⟨sc, sd, k0, k⟩
theorem sp_ord {CB : Addr} {H : Hp} {v1 v2 : V} {d1 d2 : PyData} {a b c d : Int} {Q : VK} {E : XK} (r1 : Rp K N0 H v1 d1) (r2 : Rp K N0 H v2 d2) (e1 : frOf d1 = some (a, b)) (e2 : frOf d2 = some (c, d)) (sa : Sm 2000 a) (sb : Sm 2000 b) (sc : Sm 2000 c) (sd : Sm 2000 d) (hb : 0 < b) (hd : 0 < d)
    (k : ∀ H', Ex H H' → Q (.int ((if decide (c * b < a * d) then 1 else 0) - (if decide (a * d < c * b) then 1 else 0))) H') : spOrd K CB [v1, v2] H Q E := by
  refine ⟨v1, v2, d1, d2, rfl, r1, r2, (fun z => by rw [e1] at z; cases z), fun p q z => ?_⟩
  rw [e1] at z
  cases z
  refine ⟨sa, sb, (fun z => by rw [e2] at z; cases z), fun r s z => ?_⟩
  rw [e2] at z
  cases z
  refine ⟨sc, sd, fun H' x => ?_⟩
  obtain ⟨o1, o2⟩ := ord_cross (a := a) (c := c) hb hd
  rw [decide_eq_decide.mpr o1, decide_eq_decide.mpr o2]
  exact k H' x
theorem sp_low {CB : Addr} {H : Hp} {i j : Int} {Q : VK} {E : XK} (hj : j ≠ 0) (sj : Sm 8000 j) (k : NewP H Q (red i j)) : spLow K CB [.int i, .int j] H Q E := by
  refine ⟨_, _, _, _, rfl, .int i, .int j, (fun z => by cases z), fun i' z => ?_⟩
  cases z
  exact ⟨fun z => absurd (z j rfl) hj, fun j' z _ => by cases z; exact ⟨sj, k⟩⟩
/-- _law_is(tx, te1, te2), tx a new pair -/
theorem te_is {σ : L2.St} {H : Hp} {Q : VK} {E : XK} {tx te1 te2 : TE} {p q : Int} {f : Int × Int} (hx : ∀ Q', NewP H Q' f → tx σ H Q') (v1 : ∀ H1, Val te1 σ H1 (.int p)) (v2 : ∀ H1, Val te2 σ H1 (.int q)) (lo : Low p q f.1 f.2) (sp : Sm 6000 p) (sq : Sm 6000 q) (s1 : Sm 6000 f.1) (s2 : Sm 6000 f.2)
    (k : ∀ H', Ex H H' → Q (.bl true) H') : tCall spIs [] E (tCons tx (tCons te1 (tCons te2 tNil))) σ H Q := by
  refine hx _ fun t H' x n a => ?_
  refine v1 _ _ (v2 _ _ ?_)
  exact ⟨t, p, q, f.1, f.2, rfl, a, lo, sp, sq, s1, s2, fun H2 x2 => k _ (x.tr x2)⟩
/-- list(x), x a pair that stands there -/
theorem te_list {σ : L2.St} {H : Hp} {Q : VK} {t : Addr} {n : Nat} {p q : Int} (hv : σ[n]? = some (some (.ref t))) (h : H t = some (.tup [.int p, .int q])) (k : ∀ l H', Ex H H' → Rp K N0 H' (.ref l) (.list (two p q)) → Q (.ref l) H') :
    tCB (fun xs H Q => ∃ p ys, xs = [.ref p] ∧ (SqL K H p ys ∨ SqT K H p ys) ∧ ∀ l, H l = none → Q (.ref l) (upd H l (.lst ys))) (tCons (tVar n) tNil) σ H Q := by
  refine ⟨_, hv, t, _, rfl, .inr (SqT.of h), fun l hl => k l _ (ex_new hl) ?_⟩
  exact .lst (SqL.of upd_same) (fun z => z) (.cons (.int _) (.cons (.int _) .nil))
theorem te_callx {σ : L2.St} {H : Hp} {Q : VK} {E : XK} {sp : Sp} {t : TA} (h : t σ H fun vs H1 => sp (vs ++ []) H1 Q E) : tCall sp [] E t σ H Q := h
theorem ta_cons {σ : L2.St} {H : Hp} {Q : List V → Hp → Prop} {te : TE} {t : TA} (h : te σ H fun v H1 => t σ H1 fun vs H2 => Q (v :: vs) H2) : tCons te t σ H Q := h
theorem te_lst2 {σ : L2.St} {H : Hp} {Q : VK} {tx ty : TE} (h : tx σ H fun v H1 => ty σ H1 fun u H2 => [v, u].length ≤ sizeLine ∧ ∀ p, H2 p = none → Q (.ref p) (upd H2 p (.lst [v, u]))) : tLst (tCons tx (tCons ty tNil)) σ H Q := h
theorem te_lst3 {σ : L2.St} {H : Hp} {Q : VK} {tx ty tz : TE} (h : tx σ H fun v H1 => ty σ H1 fun u H2 => tz σ H2 fun z H3 => [v, u, z].length ≤ sizeLine ∧ ∀ p, H3 p = none → Q (.ref p) (upd H3 p (.lst [v, u, z]))) : tLst (tCons tx (tCons ty (tCons tz tNil))) σ H Q := h
theorem rt_x {σ : L2.St} {H : Hp} {D : Ends} {te : TE} (h : te σ H D.rt) : tRet te D σ H := h
theorem te_lam {σ : L2.St} {H : Hp} {Q : VK} {T : List (Addr × Str)} {TT : (XK → Hp → VK → Prop) → Hp → VK → Prop} {t : XK → TE} (hT : LamX.Tabs T H) (h : ∀ H1, ExN H H1 → LamX.Tabs T H1 → TT (fun E H' Q' => t E σ H' Q') H1 Q) : LamX.tLam T TT t σ H Q := ⟨hT, h⟩
theorem eqv_self2 (x y : Str) : PyData.eqv (.tuple [.str x, .str y]) (.tuple [.str x, .str y]) = true := by
  simp [PyData.eqv, PyData.eqvAll]
/-- what is heard: the error's name and its part, as a datum -/
theorem eqd_two {H : Hp} {Q : VK} {x y x' y' : Str} {t : Addr} (s1 : SeqAt.shaped (.tuple [.str x, .str y]) = true) (s2 : SeqAt.shaped (.tuple [.str x', .str y']) = true) (ht : H t = some (.tup [.str x, .str y])) (h : ∀ H', Ex H H' → Q (.bl (PyData.eqv (.tuple [.str x, .str y]) (.tuple [.str x', .str y']))) H') :
    ∀ σ : L2.St, tTup (tCons (tC (.str x')) (tCons (tC (.str y')) tNil)) σ H fun u H2 => rEqD K (.ref t) u H2 Q := fun σ =>
  ⟨by show 2 ≤ sizeLine; decide, fun p hp => ⟨.tuple [.str x, .str y], .tuple [.str x', .str y'], .tup (SqT.of (ex_new hp _ _ ht)) (.cons (.str _) (.cons (.str _) .nil)), .tup (SqT.of upd_same) (.cons (.str _) (.cons (.str _) .nil)), s1, s2, h _ (ex_new hp)⟩⟩
theorem te_op {σ : L2.St} {H : Hp} {Q : VK} {r : R2} {ta tb : TE} {x : V} (ha : Val ta σ H x) (hb : tb σ H fun y H2 => r x y H2 Q) : tOp r ta tb σ H Q := ha _ hb
theorem te_opx {σ : L2.St} {H : Hp} {Q : VK} {r : R2} {ta tb : TE} (h : ta σ H fun x H1 => tb σ H1 fun y H2 => r x y H2 Q) : tOp r ta tb σ H Q := h
theorem sq_ifx {σ : L2.St} {H : Hp} {D : Ends} {c : TT} {t u r : TS} (h : c σ H fun b H1 => if b = true then t { D with nx := r D } σ H1 else u { D with nx := r D } σ H1) : tSeq (tIfS c t u) r D σ H := h
theorem vl_gt {σ : L2.St} {H : Hp} {ta tb : TE} {i j : Int} (ha : Val ta σ H (.int i)) (hb : Val tb σ H (.int j)) : Val (tOp (rI0 fun i j => .bl (decide (j < i))) ta tb) σ H (.bl (decide (j < i))) := vl_I0 ha hb
theorem sq_unp {u : TS} {D : Ends} {σ : L2.St} {H : Hp} {m n i j k l : Nat} {t1 t2 : Addr} {x y z w : V} (e1 : σ[m]? = some (some (.ref t1))) (e2 : σ[n]? = some (some (.ref t2))) (h1 : H t1 = some (.tup [x, y])) (h2 : H t2 = some (.tup [z, w]))
    (h : ∀ H1, Ex H H1 → u D ((((σ.set i (some x)).set j (some y)).set k (some z)).set l (some w)) H1) :
    tSeq (tAsg (tTup (tCons (tVar m) (tCons (tVar n) tNil))) (gTup K 2 (gCons (gTup K 2 (gCons (gName i) (gCons (gName j) gNil))) (gCons (gTup K 2 (gCons (gName k) (gCons (gName l) gNil))) gNil)))) u D σ H := by
  refine ⟨_, e1, _, e2, by show 2 ≤ sizeLine; decide, fun tt htt => ?_⟩
  have x1 : Ex H (upd H tt (.tup [.ref t1, .ref t2])) := ex_new htt
  exact ⟨tt, _, rfl, SqT.of upd_same, rfl, ⟨_, _, rfl, ⟨t1, _, rfl, SqT.of (x1 _ _ h1), rfl, ⟨_, _, rfl, ⟨_, _, rfl, ⟨rfl, ⟨_, _, rfl, ⟨t2, _, rfl, SqT.of (x1 _ _ h2), rfl, ⟨_, _, rfl, ⟨_, _, rfl, ⟨rfl, ⟨rfl, h _ x1⟩⟩⟩⟩⟩⟩⟩⟩⟩⟩⟩⟩
theorem small_sub (x y : Bool) : ((if x then (1 : Int) else 0) - (if y then 1 else 0)).natAbs.log2 < 1920 := by
  cases x <;> cases y <;> decide
theorem ex_b {H H1 H2 : Hp} {l : Addr} {o : HO} (hl : H l = none) (x : Ex (upd H l o) H1) (e : ExB l H1 H2) : Ex H H2 := fun b u h => by
  have n : b ≠ l := ne_of_none h hl
  exact e b u n (x b u (by rw [upd_ne n]; exact h))
theorem ok_right (N : Nm mg) {CS CB CM : Addr} (S : Errs K mg CS CB CM) (HD : HeardD K mg) (G : Prog P w K mg base CB CM) (CI : Cal P w K mg base 2 "_law_is" sIs ["value", "p", "q"] spIs)
    {T : List (Addr × Str)} {c Pt : Addr} (TB : LamX.TabB base mg c Pt) (hmT : (Pt, qRight) ∈ T) (hu : ∀ p ∈ T, p.1 = Pt → p.2 = qRight)
    {f : Addr} {fd : FuncData} (F : FunD K "_law_right" "_law_right" (defArgs sRight) (defBody sRight) (defScope sRight) [] [] f fd) (hc : fd.code = .ref c) : FnOk P w K mg base (L2.CX P w) 7 f fd ["one", "other"] (spRight T) := by
  refine FunD_okC F scRight hc (fun vs H Q E h => ?_) (fun A outer s H vs Q E hr h => ?_)
  · obtain ⟨_, _, _, _, _, _, rfl, _⟩ := h
    rfl
  · obtain ⟨t1, t2, a, b, c', d, rfl, h1, h2, b0, d0, sa, sb, sc, sd, hT, k⟩ := h
    refine ⟨_, pss_cons (ps_asg (pe_tup (pa_cons (pv 0) (pa_cons (pv 1) pa_nil))) (pg_tup rfl (pgs_cons (pg_tup rfl (pgs_cons (pg_name (i := 2) scRight.nd rfl (Or.inl rfl)) (pgs_cons (pg_name (i := 3) scRight.nd rfl (Or.inl rfl)) pgs_nil)))
        (pgs_cons (pg_tup rfl (pgs_cons (pg_name (i := 4) scRight.nd rfl (Or.inl rfl)) (pgs_cons (pg_name (i := 5) scRight.nd rfl (Or.inl rfl)) pgs_nil))) pgs_nil))))
      (pss_cons (ps_set (i := 6) scRight.nd rfl (.inl rfl) (pe_lst (pa_cons
          (pe_cal CI bdIs hr (by decide) passL (by rfl) (pa_cons (pe_cal G.plus (bdTwo fun _ _ _ _ _ _ _ _ => rfl) hr (by decide) passL (by rfl) (pa_cons (pv 0) (pa_cons (pe_callTy call_list_of (by rfl) N.list (by decide +kernel) (pa_cons (pv 1) pa_nil)) pa_nil)))
            (pa_cons (pe_op op_add (pe_op op_mulW (pv 2) (pv 5)) (pe_op op_mulW (pv 4) (pv 3))) (pa_cons (pe_op op_mulW (pv 3) (pv 5)) pa_nil))))
          (pa_cons (pe_cal CI bdIs hr (by decide) passL (by rfl) (pa_cons (pe_cal G.minus (bdTwo fun _ _ _ _ _ _ _ _ => rfl) hr (by decide) passL (by rfl) (pa_cons (pe_callTy call_list_of (by rfl) N.list (by decide +kernel) (pa_cons (pv 0) pa_nil)) (pa_cons (pv 1) pa_nil)))
            (pa_cons (pe_op op_sub (pe_op op_mulW (pv 2) (pv 5)) (pe_op op_mulW (pv 4) (pv 3))) (pa_cons (pe_op op_mulW (pv 3) (pv 5)) pa_nil)))) pa_nil))))
      (pss_cons (ps_set (i := 6) scRight.nd rfl (.inl rfl) (pe_op op_cat (pv 6) (pe_lst (pa_cons
          (pe_cal CI bdIs hr (by decide) passL (by rfl) (pa_cons (pe_cal2 G.times (fun _ _ _ _ _ _ _ _ => rfl) hr (by decide) passL (by rfl) (pv 0) (pv 1)) (pa_cons (pe_op op_mulW (pv 2) (pv 4)) (pa_cons (pe_op op_mulW (pv 3) (pv 5)) pa_nil))))
          (pa_cons (pe_cal CI bdIs hr (by decide) passL (by rfl) (pa_cons (pe_cal2 G.low (fun _ _ _ _ _ _ _ _ => rfl) hr (by decide) passL (by rfl) (pv 2) (pe_un un_neg (pv 3))) (pa_cons (pe_un un_neg (pv 2)) (pa_cons (pv 3) pa_nil))))
          (pa_cons (pe_cal CI bdIs hr (by decide) passL (by rfl) (pa_cons (pe_cal G.low bdLow hr (by decide) passL (by rfl) (pa_cons (pv 2) (pa_cons (pv 3) pa_nil))) (pa_cons (pv 2) (pa_cons (pv 3) pa_nil)))) pa_nil))))))
      (pss_cons (ps_if (PW.pt (pw_or (pt_cmpR op_in_seq pe_bl (pv 6) (by rfl)) (pw_or1 (pt_cmpR op_ne
          (pe_callB SkE.call_repr_int (by rfl) N.repr (by decide +kernel) (pa_cons (pe_cal2r G.ord (fun _ _ _ _ _ _ _ _ => rfl) hr (by decide) passL (by rfl) (pv 1) (pv 0)) pa_nil))
          (pe_callB SkE.call_repr_int (by rfl) N.repr (by decide +kernel) (pa_cons (pe_op op_sub (pe_callTy call_int1 (by rfl) N.int (by decide +kernel) (pa_cons (pe_cmpR op_gt (pe_op op_mulW (pv 2) (pv 5)) (pe_op op_mulW (pv 4) (pv 3)) (nomark _)) pa_nil))
            (pe_callTy call_int1 (by rfl) N.int (by decide +kernel) (pa_cons (pe_cmpR op_lt (pe_op op_mulW (pv 2) (pv 5)) (pe_op op_mulW (pv 4) (pv 3)) (nomark _)) pa_nil))) pa_nil)) (nomark _))))) (pss_one (ps_ret pe_bl)) pss_nil)
      (pss_cons (ps_if (pt_cmpR op_ne (pv 4) pe_int (nomark _)) (pss_one (ps_ret (pe_and
          (pe_cal CI bdIs hr (by decide) passL (by rfl) (pa_cons (pe_cal G.over (bdTwo fun _ _ _ _ _ _ _ _ => rfl) hr (by decide) passL (by rfl) (pa_cons (pv 0) (pa_cons (pv 1) pa_nil))) (pa_cons (pe_op op_mulW (pv 2) (pv 5)) (pa_cons (pe_op op_mulW (pv 3) (pv 4)) pa_nil))))
          (pe_one (pe_cal CI bdIs hr (by decide) passL (by rfl) (pa_cons (pe_cal2r G.over (fun _ _ _ _ _ _ _ _ => rfl) hr (by decide) passL (by rfl) (pv 1) (pe_callTy call_list_of (by rfl) N.list (by decide +kernel) (pa_cons (pv 0) pa_nil))) (pa_cons (pe_op op_mulW (pv 2) (pv 5)) (pa_cons (pe_op op_mulW (pv 3) (pv 4)) pa_nil)))))))) pss_nil)
      (pss_one (ps_ret (pe_cmpR (op_eqD hr.units) (pe_heard (k := 4) N S HD (by rfl) TB rfl hmT hu hr (LamX.lamS_by (sc := defScope sRight) (by decide +kernel)) rfl (fun _ _ _ _ _ => rfl)
        (fun A2 outer2 s2 H2 E2 f2 c2 hr2 => pe_cal (E := E2) G.over (bdTwo fun _ _ _ _ _ _ _ _ => rfl) hr2 (by decide) (passes_call (takes_of (E := E2) rfl rfl rfl rfl) fun _ _ _ _ h => h) (by rfl) (pa_cons (pv 0) (pa_cons (pv 1) pa_nil))))
        (pe_tup (pa_cons pe_str (pa_cons pe_str pa_nil))) (nomark _)))))))), ?_⟩
    have r1 : Rp K N0 H (.ref t1) (.tuple (two a b)) := pr_of (f := (a, b)) h1
    have r2 : Rp K N0 H (.ref t2) (.tuple (two c' d)) := pr_of (f := (c', d)) h2
    have up : ∀ {i : Int} {n : Nat}, Sm 400 i → 400 ≤ n → Sm n i := fun h1 h2 => sm_le h2 h1
    have ab : Sm 800 (a * d) := sm_mul sa sd
    have cb : Sm 800 (c' * b) := sm_mul sc sb
    have bd : Sm 800 (b * d) := sm_mul sb sd
    have ac : Sm 800 (a * c') := sm_mul sa sc
    have bc : Sm 800 (b * c') := sm_mul sb sc
    have w1 : CMulW a d := mw (up sa (by decide)) (up sd (by decide))
    have w2 : CMulW c' b := mw (up sc (by decide)) (up sb (by decide))
    have w3 : CMulW b d := mw (up sb (by decide)) (up sd (by decide))
    have w4 : CMulW a c' := mw (up sa (by decide)) (up sc (by decide))
    have w5 : CMulW b c' := mw (up sb (by decide)) (up sc (by decide))
    have ma := red_sm1 (p := a) (q := b) (by omega) sa
    have mb := red_sm2 (p := a) (q := b) (by omega) sb
    have mc := red_sm1 (p := c') (q := d) (by omega) sc
    have md := red_sm2 (p := c') (q := d) (by omega) sd
    have pb := (red_low (p := a) (q := b) (by omega)).pos
    have pd := (red_low (p := c') (q := d) (by omega)).pos
    refine sq_unp rfl rfl h1 h2 fun H1 x1 => ?_
    have q1 := x1 _ _ h1
    have q2 := x1 _ _ h2
    refine sq_set (te_lst2 ?_)
    refine te_is (f := binF (fun p q r s => p * s + r * q) (fun p q r s => q * s) a b c' d) (fun Q' k' => ?_) (fun _ => vl_add (vl_mulW (val_var rfl) (val_var rfl) w1) (vl_mulW (val_var rfl) (val_var rfl) w2)) (fun _ => vl_mulW (val_var rfl) (val_var rfl) w3) (low_plus b0 d0)
      (sm_le (by decide) (sm_add ab cb)) (sm_le (by decide) bd) (sm_le (b := 6000) (by decide) (red_sm1 (Int.ne_of_gt (Int.mul_pos pb pd)) (sm_add (sm_mul ma md) (sm_mul mc mb)))) (sm_le (b := 6000) (by decide) (red_sm2 (Int.ne_of_gt (Int.mul_pos pb pd)) (sm_mul mb md))) fun H2 x2 => ?_
    · refine ⟨_, rfl, te_list (n := 1) rfl q2 fun l Hl xl rl => ?_⟩
      exact sp_bin ((r1.ex x1).ex xl) rl (fr_tup b0) (fr_lst d0) (up sa (by decide)) (up sb (by decide)) (up sc (by decide)) (up sd (by decide)) (k'.mono xl)
    have x12 := x1.tr x2
    have q21 := x12 _ _ h1
    have q22 := x12 _ _ h2
    refine te_is (f := binF (fun p q r s => p * s - r * q) (fun p q r s => q * s) a b c' d) (fun Q' k' => ?_) (fun _ => vl_sub (vl_mulW (val_var rfl) (val_var rfl) w1) (vl_mulW (val_var rfl) (val_var rfl) w2)) (fun _ => vl_mulW (val_var rfl) (val_var rfl) w3) (low_minus b0 d0)
      (sm_le (by decide) (sm_sub ab cb)) (sm_le (by decide) bd) (sm_le (b := 6000) (by decide) (red_sm1 (Int.ne_of_gt (Int.mul_pos pb pd)) (sm_sub (sm_mul ma md) (sm_mul mc mb)))) (sm_le (b := 6000) (by decide) (red_sm2 (Int.ne_of_gt (Int.mul_pos pb pd)) (sm_mul mb md))) fun H3 x3 => ?_
    · refine te_callx (ta_cons (te_list (n := 0) rfl q21 fun l Hl xl rl => ⟨_, rfl, ?_⟩))
      exact sp_bin rl ((r2.ex x12).ex xl) (fr_lst b0) (fr_tup d0) (up sa (by decide)) (up sb (by decide)) (up sc (by decide)) (up sd (by decide)) (k'.mono xl)
    refine ⟨by show 2 ≤ sizeLine; decide, fun lf hlf => ?_⟩
    have x13 := (x12.tr x3).tr (ex_new (o := .lst [.bl true, .bl true]) hlf)
    have hlf3 : upd H3 lf (.lst [.bl true, .bl true]) lf = some (.lst [.bl true, .bl true]) := upd_same
    generalize upd H3 lf (.lst [.bl true, .bl true]) = H4 at x13 hlf3
    refine sq_set (te_op (val_var rfl) (te_lst3 ?_))
    refine te_is (f := binF (fun p q r s => p * r) (fun p q r s => q * s) a b c' d) (fun Q' k' => ?_) (fun _ => vl_mulW (val_var rfl) (val_var rfl) w4) (fun _ => vl_mulW (val_var rfl) (val_var rfl) w3) (low_times b0 d0)
      (sm_le (by decide) ac) (sm_le (by decide) bd) (sm_le (b := 6000) (by decide) (red_sm1 (Int.ne_of_gt (Int.mul_pos pb pd)) (sm_mul ma mc))) (sm_le (b := 6000) (by decide) (red_sm2 (Int.ne_of_gt (Int.mul_pos pb pd)) (sm_mul mb md))) fun H5 x5 => ?_
    · exact ⟨_, rfl, ⟨_, rfl, sp_bin (r1.ex x13) (r2.ex x13) (fr_tup b0) (fr_tup d0) (up sa (by decide)) (up sb (by decide)) (up sc (by decide)) (up sd (by decide)) k'⟩⟩
    refine te_is (f := red a (-b)) (fun Q' k' => ?_) (fun _ => vl_neg (val_var rfl)) (fun _ => val_var rfl) (low_flip b0)
      (sm_neg (up sa (by decide))) (up sb (by decide)) (sm_le (b := 6000) (by decide) (red_sm1 (by omega) sa)) (sm_le (b := 6000) (by decide) (red_sm2 (by omega) (sm_neg sb))) fun H6 x6 => ?_
    · exact ⟨_, rfl, ⟨_, rfl, ⟨_, rfl, sp_low (by omega) (sm_neg (up sb (by decide))) k'⟩⟩⟩
    refine te_is (f := red a b) (fun Q' k' => ?_) (fun _ => val_var rfl) (fun _ => val_var rfl) (red_low (by omega))
      (up sa (by decide)) (up sb (by decide)) (up ma (by decide)) (up mb (by decide)) fun H7 x7 => ?_
    · exact te_call (sp := spLow K CB) (va2 (val_var rfl) (val_var rfl)) (sp_low (by omega) (up sb (by decide)) k')
    refine ⟨by show 3 ≤ sizeLine; decide, fun lg hlg => ?_⟩
    have x47 := (x5.tr x6).tr x7
    have x8 := ex_new (o := .lst [.bl true, .bl true, .bl true]) hlg
    refine ⟨lf, lg, [.bl true, .bl true], [.bl true, .bl true, .bl true], rfl, rfl, x8 _ _ (x47 _ _ hlf3), upd_same, by show 5 ≤ sizeLine; decide, fun lh hlh => ?_⟩
    have x18 := ((x13.tr x47).tr x8).tr (ex_new (o := .lst ([.bl true, .bl true] ++ [.bl true, .bl true, .bl true])) hlh)
    have hlh3 : upd (upd H7 lg (.lst [.bl true, .bl true, .bl true])) lh (.lst ([.bl true, .bl true] ++ [.bl true, .bl true, .bl true])) lh = some (.lst [.bl true, .bl true, .bl true, .bl true, .bl true]) := upd_same
    generalize upd (upd H7 lg (.lst [.bl true, .bl true, .bl true])) lh (.lst ([.bl true, .bl true] ++ [.bl true, .bl true, .bl true])) = H8 at x18 hlh3
    refine sq_ifx ⟨_, rfl, ⟨lh, _, rfl, .inl (SqL.of hlh3), rfl, rfl, false, rfl, iteF ?_⟩⟩
    refine ⟨_, rfl, ⟨_, rfl, sp_ord (r1.ex x18) (r2.ex x18) (fr_tup b0) (fr_tup d0) (up sa (by decide)) (up sb (by decide)) (up sc (by decide)) (up sd (by decide)) b0 d0 fun H9 x9 => ⟨_, rfl, small_sub _ _, ?_⟩⟩⟩
    refine va1 (vl_sub (vl_intB (vl_gt (vl_mulW (val_var rfl) (val_var rfl) w1) (vl_mulW (val_var rfl) (val_var rfl) w2))) (vl_intB (vl_lt (vl_mulW (val_var rfl) (val_var rfl) w1) (vl_mulW (val_var rfl) (val_var rfl) w2)))) _ ⟨_, rfl, small_sub _ _, rfl, _, rfl, ?_⟩
    rw [decide_eq_true rfl]
    refine iteF ?_
    have x19 := x18.tr x9
    have q91 := x19 _ _ h1
    have q92 := x19 _ _ h2
    have T9 := hT.ext x19
    refine sq_if (ans_ne (val_var rfl) val_c rfl rfl) ?_
    by_cases hc0 : c' = 0
    · rw [decide_eq_true (show V.int c' = V.int 0 by rw [hc0])]
      refine iteF (rt_x (te_opx (te_lam T9 fun H1 eN T1 l hl E2 Qf hE hQ => ?_)))
      have z1 := eN _ _ q91 (fun ps z => by cases z)
      have z2 := eN _ _ q92 (fun ps z => by cases z)
      have y1 : Ex H1 (upd H1 l (.lst [])) := ex_new hl
      refine te_call (sp := spOver K CB CM) (va2 (val_var rfl) (val_var rfl)) (sp_over (pr_of (f := (a, b)) (y1 _ _ z1)) (pr_of (f := (c', d)) (y1 _ _ z2)) (fr_tup b0) (fr_tup d0) (up sa (by decide)) (up sb (by decide)) (up sc (by decide)) (up sd (by decide)) (fun _ => ?_) fun z => absurd hc0 z)
      intro dd H' x n hd
      refine hE _ _ _ ⟨CM, dd, .str "other", "misfit", rfl, rfl, hd, x _ _ upd_same, .inr ⟨rfl, rfl⟩, fun t H2 e nt ht => ?_⟩
      have xx : Ex H1 H2 := ex_b hl x e
      refine eqd_two (by decide +kernel) (by decide +kernel) ht (fun H3 x3 => ?_) _
      rw [eqv_self2]
      exact k _ ((ExN.of x19).tr (eN.tr (ExN.of (xx.tr x3)))) (T1.ext (xx.tr x3))
    · rw [decide_eq_false (show ¬ V.int c' = V.int 0 from fun z => hc0 (V.int.inj z))]
      refine iteT ?_
      have nz : (red a b).2 * (red c' d).1 ≠ 0 := fun z => (Int.mul_eq_zero.mp z).elim (fun z => by omega) fun z => hc0 ((red_zero (by omega)).mp z)
      have s1 : Sm 6000 (binF (fun p q r s => p * s) (fun p q r s => q * r) a b c' d).1 := sm_le (b := 6000) (by decide) (red_sm1 nz (sm_mul ma md))
      have s2 : Sm 6000 (binF (fun p q r s => p * s) (fun p q r s => q * r) a b c' d).2 := sm_le (b := 6000) (by decide) (red_sm2 nz (sm_mul mb mc))
      refine te_is (f := binF (fun p q r s => p * s) (fun p q r s => q * r) a b c' d) (fun Q' k' => ?_) (fun _ => vl_mulW (val_var rfl) (val_var rfl) w1) (fun _ => vl_mulW (val_var rfl) (val_var rfl) w5) (low_over b0 d0 hc0)
        (sm_le (by decide) ab) (sm_le (by decide) bc) s1 s2 fun H10 x10 => ⟨true, rfl, iteT ?_⟩
      · exact te_call (sp := spOver K CB CM) (va2 (val_var rfl) (val_var rfl)) (sp_over (r1.ex x19) (r2.ex x19) (fr_tup b0) (fr_tup d0) (up sa (by decide)) (up sb (by decide)) (up sc (by decide)) (up sd (by decide)) (fun z => absurd z hc0) fun _ => k')
      refine te_is (f := binF (fun p q r s => p * s) (fun p q r s => q * r) a b c' d) (fun Q' k' => ?_) (fun _ => vl_mulW (val_var rfl) (val_var rfl) w1) (fun _ => vl_mulW (val_var rfl) (val_var rfl) w5) (low_over b0 d0 hc0)
        (sm_le (by decide) ab) (sm_le (by decide) bc) s1 s2 fun H11 x11 => ?_
      · refine ⟨_, rfl, te_list (n := 0) rfl (x10 _ _ q91) fun l Hl xl rl => ?_⟩
        exact sp_over rl (((r2.ex x19).ex x10).ex xl) (fr_lst b0) (fr_tup d0) (up sa (by decide)) (up sb (by decide)) (up sc (by decide)) (up sd (by decide)) (fun z => absurd z hc0) fun _ => k'.mono xl
      exact k _ (ExN.of ((x19.tr x10).tr x11)) (hT.ext ((x19.tr x10).tr x11))
end
end K01

set_option Elab.async false
set_option linter.all false
set_option maxRecDepth 100000
set_option maxHeartbeats 8000000
/-! k01: the law's refused -/
namespace K01
open PySem PySem.Spec PyProof.Rows L2 DL
abbrev sRefused : Stmt := top 32
abbrev qRef : Str := (("_law_refused" : Str) ++ ".<locals>.") ++ "<lambda>"
abbrev nRef : List Str := ["pen", "one", "odd", "bad", "none", "nought"]
theorem scRefused : FnScope nRef ["pen", "one"] (defScope sRefused) := ⟨rfl, rfl, rfl, by decide +kernel, rfl, by decide +kernel, by decide +kernel⟩
def oddDs : List PyData := [.none, .int 5, .str "1/2", .tuple [.int 1], .tuple [.int 1, .int 2, .int 3], .tuple [.int 1, .int 0], .tuple [.int 1, .int (-2)], .tuple [.int 1, .bool true], .tuple [.bool true, .int 2], .tuple [.str "1", .int 2], .tuple [.none, .int 1], .dict [], .list [], .tuple [.int 1, .str "2"]]
def badDs : List PyData := [.none, .tuple [.int 0, .int 0], .list [.int 1], .str "x"]
def noneDs : List PyData := [.none, .bool true, .str "3", .tuple [.int 1]]
def noughtDs : List PyData := [.int 0, .none, .bool false, .str "3", .tuple [.int 1]]
theorem odd_no : ∀ d ∈ oddDs, frOf d = none := by
  intro d hd
  simp only [oddDs, List.mem_cons, List.mem_nil_iff, or_false] at hd
  rcases hd with rfl | rfl | rfl | rfl | rfl | rfl | rfl | rfl | rfl | rfl | rfl | rfl | rfl | rfl <;> rfl
theorem none_no : ∀ d ∈ noneDs, isI d = false := by
  intro d hd
  simp only [noneDs, List.mem_cons, List.mem_nil_iff, or_false] at hd
  rcases hd with rfl | rfl | rfl | rfl <;> rfl
theorem nought_no : ∀ d ∈ noughtDs, ∀ j, d = .int j → j = 0 := by
  intro d hd j e
  simp only [noughtDs, List.mem_cons, List.mem_nil_iff, or_false] at hd
  rcases hd with rfl | rfl | rfl | rfl | rfl <;> cases e
  rfl
section
variable {P : Program} {w : World} {K : PySem.W.Frag} {mg : Str → Option Value} {base : Heap}
theorem te_pickR {σ : L2.St} {H : Hp} {Q : VK} {E : XK} {pn c0 : Addr} {cells : List Int} {a lf : Int} {ta : TA} {ds : List PyData} (hv : σ[0]? = some (some (.ref pn))) (hx : VR K (N1 pn) ta σ H ds) (hp : Pen H pn c0 cells a lf) (ha : a < 100000) (h0 : 0 < ds.length) (h1 : ds.length ≤ 1000)
    (k : ∀ (v : V) (d : PyData) (a' l' : Int) (H' : Hp), d ∈ ds → Rp K (N1 pn) H' v d → a ≤ a' → a' ≤ a + 1 → ExB pn H H' → Pen H' pn c0 cells a' l' → Q v H') : tCall spPick [] E (tCons (tVar 0) (tCons (tLst ta) tNil)) σ H Q := by
  refine ⟨_, hv, ?_⟩
  refine hx H (ex_refl H) _ fun vs H1 x1 rs hl => ⟨by rw [hl]; exact Nat.le_trans h1 (by decide), fun l hll => ?_⟩
  have x2 : Ex H1 (upd H1 l (.lst vs)) := ex_new hll
  have p1 := hp.ex x1
  refine ⟨pn, c0, l, vs, cells, a, lf, rfl, p1.ex x2, (fun z => by rw [z, p1.p] at hll; cases hll), upd_same, ha, by omega, by omega, fun v a' l' H' hm b0 b1 e p' => ?_⟩
  obtain ⟨i, hi, e1⟩ := List.mem_iff_getElem.mp hm
  obtain ⟨d, hd, rd⟩ := rs.at (i := i) (v := v) (by rw [List.getElem?_eq_getElem hi, e1])
  exact k v d a' l' H' (List.mem_of_getElem? hd) ((rd.ex x2).kp e.kp) b0 b1 ((ExB.of (x1.tr x2)).tr e) p'
theorem ned_two {H : Hp} {Q : VK} {x y : Str} {t : Addr} (s1 : SeqAt.shaped (.tuple [.str x, .str y]) = true) (ht : H t = some (.tup [.str x, .str y])) (h : ∀ H', Ex H H' → Q (.bl false) H') :
    ∀ σ : L2.St, tTup (tCons (tC (.str x)) (tCons (tC (.str y)) tNil)) σ H fun u H2 => rNeD K (.ref t) u H2 Q := fun σ =>
  ⟨by show 2 ≤ sizeLine; decide, fun p hp => ⟨.tuple [.str x, .str y], .tuple [.str x, .str y], .tup (SqT.of (ex_new hp _ _ ht)) (.cons (.str _) (.cons (.str _) .nil)), .tup (SqT.of upd_same) (.cons (.str _) (.cons (.str _) .nil)), s1, s1, by rw [eqv_self2]; exact h _ (ex_new hp)⟩⟩
section
variable {T : List (Addr × Str)} {CB CM : Addr} {σ : L2.St} {H : Hp} {p1 p2 : Str} {tA tB : XK → TE}
theorem ne_heard {Q : VK} (sh : SeqAt.shaped (.tuple [.str "badvalue", .str p1]) = true) (hT : LamX.Tabs T H) (hX : ∀ H1, ExN H H1 → ∀ (E : XK) (Qf : VK), XB CB H1 E p1 → tA E σ H1 Qf) (k : ∀ H', ExN H H' → LamX.Tabs T H' → Q (.bl false) H') :
    tOp (rNeD K) (LamX.tLam T (TTh CB CM) tA) (tTup (tCons (tC (.str "badvalue")) (tCons (tC (.str p1)) tNil))) σ H Q := by
  refine te_opx (te_lam hT fun H1 eN T1 l hl E Qf hE hQ => hX _ (eN.tr (ExN.of (ex_new hl))) _ _ ?_)
  intro dd H' x n hd
  refine hE _ _ _ ⟨CB, dd, .str p1, "badvalue", rfl, rfl, hd, x _ _ upd_same, .inl ⟨rfl, rfl⟩, fun t H2 e nt ht => ?_⟩
  have xx : Ex H1 H2 := ex_b hl x e
  refine ned_two sh ht (fun H3 x3 => ?_) _
  exact k _ (eN.tr (ExN.of (xx.tr x3))) (T1.ext (xx.tr x3))
theorem eq_heard {Q : VK} (sh : SeqAt.shaped (.tuple [.str "badvalue", .str p1]) = true) (hT : LamX.Tabs T H) (hX : ∀ H1, ExN H H1 → ∀ (E : XK) (Qf : VK), XB CB H1 E p1 → tA E σ H1 Qf) (k : ∀ H', ExN H H' → LamX.Tabs T H' → Q (.bl true) H') :
    tOp (rEqD K) (LamX.tLam T (TTh CB CM) tA) (tTup (tCons (tC (.str "badvalue")) (tCons (tC (.str p1)) tNil))) σ H Q := by
  refine te_opx (te_lam hT fun H1 eN T1 l hl E Qf hE hQ => hX _ (eN.tr (ExN.of (ex_new hl))) _ _ ?_)
  intro dd H' x n hd
  refine hE _ _ _ ⟨CB, dd, .str p1, "badvalue", rfl, rfl, hd, x _ _ upd_same, .inl ⟨rfl, rfl⟩, fun t H2 e nt ht => ?_⟩
  have xx : Ex H1 H2 := ex_b hl x e
  refine eqd_two sh sh ht (fun H3 x3 => ?_) _
  rw [eqv_self2]
  exact k _ (eN.tr (ExN.of (xx.tr x3))) (T1.ext (xx.tr x3))
theorem sq_two {D : Ends} {u r : TS} (s1 : SeqAt.shaped (.tuple [.str "badvalue", .str p1]) = true) (s2 : SeqAt.shaped (.tuple [.str "badvalue", .str p2]) = true) (hT : LamX.Tabs T H) (hA : ∀ H1, ExN H H1 → ∀ (E : XK) (Qf : VK), XB CB H1 E p1 → tA E σ H1 Qf)
    (hB : ∀ H1, ExN H H1 → ∀ (E : XK) (Qf : VK), XB CB H1 E p2 → tB E σ H1 Qf) (k : ∀ H', ExN H H' → LamX.Tabs T H' → r D σ H') :
    tSeq (tIfS (tOr (tTest (tOp (rNeD K) (LamX.tLam T (TTh CB CM) tA) (tTup (tCons (tC (.str "badvalue")) (tCons (tC (.str p1)) tNil))))) (tTest (tOp (rNeD K) (LamX.tLam T (TTh CB CM) tB) (tTup (tCons (tC (.str "badvalue")) (tCons (tC (.str p2)) tNil)))))) u tNext) r D σ H := by
  refine sq_ifx (ne_heard s1 hT hA fun H' e T' => ⟨false, rfl, iteF (ne_heard s2 T' (fun H1 e1 => hB H1 (e.tr e1)) fun H2 e2 T2 => ⟨false, rfl, iteF ?_⟩)⟩)
  exact k H2 (e.tr e2) T2
theorem and_two {D : Ends} (s1 : SeqAt.shaped (.tuple [.str "badvalue", .str p1]) = true) (s2 : SeqAt.shaped (.tuple [.str "badvalue", .str p2]) = true) (hT : LamX.Tabs T H) (hA : ∀ H1, ExN H H1 → ∀ (E : XK) (Qf : VK), XB CB H1 E p1 → tA E σ H1 Qf)
    (hB : ∀ H1, ExN H H1 → ∀ (E : XK) (Qf : VK), XB CB H1 E p2 → tB E σ H1 Qf) (k : ∀ H', ExN H H' → LamX.Tabs T H' → D.rt (.bl true) H') :
    tRet (tAndV (tOp (rEqD K) (LamX.tLam T (TTh CB CM) tA) (tTup (tCons (tC (.str "badvalue")) (tCons (tC (.str p1)) tNil)))) (tOp (rEqD K) (LamX.tLam T (TTh CB CM) tB) (tTup (tCons (tC (.str "badvalue")) (tCons (tC (.str p2)) tNil))))) D σ H := by
  refine rt_x (eq_heard s1 hT hA fun H' e T' => ⟨true, rfl, iteT (eq_heard s2 T' (fun H1 e1 => hB H1 (e.tr e1)) fun H2 e2 T2 => ?_)⟩)
  exact k H2 (e.tr e2) T2
end
/-- what does not pass as the first, or as the second fraction -/
theorem no_bin1 {CB : Addr} {f g : Int → Int → Int → Int → Int} {H : Hp} {v1 v2 : V} {d1 d2 : PyData} {Q : VK} {E : XK} (r1 : Rp K N0 H v1 d1) (r2 : Rp K N0 H v2 d2) (e : frOf d1 = none) (x : XB CB H E "one") : spBin K CB f g [v1, v2] H Q E :=
  ⟨v1, v2, d1, d2, rfl, r1, r2, fun _ => x, fun p q z => by rw [e] at z; cases z⟩
theorem no_bin2 {CB : Addr} {f g : Int → Int → Int → Int → Int} {H : Hp} {v1 v2 : V} {d1 d2 : PyData} {a b : Int} {Q : VK} {E : XK} (r1 : Rp K N0 H v1 d1) (r2 : Rp K N0 H v2 d2) (e1 : frOf d1 = some (a, b)) (sa : Sm 2000 a) (sb : Sm 2000 b) (e : frOf d2 = none) (x : XB CB H E "other") : spBin K CB f g [v1, v2] H Q E := by
  refine ⟨v1, v2, d1, d2, rfl, r1, r2, (fun z => by rw [e1] at z; cases z), fun p q z => ?_⟩
  rw [e1] at z
  cases z
  exact ⟨sa, sb, fun _ => x, fun r s z => by rw [e] at z; cases z⟩
theorem no_over1 {CB CM : Addr} {H : Hp} {v1 v2 : V} {d1 d2 : PyData} {Q : VK} {E : XK} (r1 : Rp K N0 H v1 d1) (r2 : Rp K N0 H v2 d2) (e : frOf d1 = none) (x : XB CB H E "one") : spOver K CB CM [v1, v2] H Q E :=
  ⟨v1, v2, d1, d2, rfl, r1, r2, fun _ => x, fun p q z => by rw [e] at z; cases z⟩
theorem no_over2 {CB CM : Addr} {H : Hp} {v1 v2 : V} {d1 d2 : PyData} {a b : Int} {Q : VK} {E : XK} (r1 : Rp K N0 H v1 d1) (r2 : Rp K N0 H v2 d2) (e1 : frOf d1 = some (a, b)) (sa : Sm 2000 a) (sb : Sm 2000 b) (e : frOf d2 = none) (x : XB CB H E "other") : spOver K CB CM [v1, v2] H Q E := by
  refine ⟨v1, v2, d1, d2, rfl, r1, r2, (fun z => by rw [e1] at z; cases z), fun p q z => ?_⟩
  rw [e1] at z
  cases z
  exact ⟨sa, sb, fun _ => x, fun r s z => by rw [e] at z; cases z⟩
theorem no_ord1 {CB : Addr} {H : Hp} {v1 v2 : V} {d1 d2 : PyData} {Q : VK} {E : XK} (r1 : Rp K N0 H v1 d1) (r2 : Rp K N0 H v2 d2) (e : frOf d1 = none) (x : XB CB H E "one") : spOrd K CB [v1, v2] H Q E :=
  ⟨v1, v2, d1, d2, rfl, r1, r2, fun _ => x, fun p q z => by rw [e] at z; cases z⟩
theorem no_ord2 {CB : Addr} {H : Hp} {v1 v2 : V} {d1 d2 : PyData} {a b : Int} {Q : VK} {E : XK} (r1 : Rp K N0 H v1 d1) (r2 : Rp K N0 H v2 d2) (e1 : frOf d1 = some (a, b)) (sa : Sm 2000 a) (sb : Sm 2000 b) (e : frOf d2 = none) (x : XB CB H E "other") : spOrd K CB [v1, v2] H Q E := by
  refine ⟨v1, v2, d1, d2, rfl, r1, r2, (fun z => by rw [e1] at z; cases z), fun p q z => ?_⟩
  rw [e1] at z
  cases z
  exact ⟨sa, sb, fun _ => x, fun r s z => by rw [e] at z; cases z⟩
theorem no_low1 {CB : Addr} {H : Hp} {v1 v2 : V} {d1 d2 : PyData} {Q : VK} {E : XK} (r1 : Rp K N0 H v1 d1) (r2 : Rp K N0 H v2 d2) (e : isI d1 = false) (x : XB CB H E "p") : spLow K CB [v1, v2] H Q E :=
  ⟨v1, v2, d1, d2, rfl, r1, r2, fun _ => x, fun i z => by rw [z] at e; cases e⟩
theorem no_low2 {CB : Addr} {H : Hp} {i : Int} {v2 : V} {d2 : PyData} {Q : VK} {E : XK} (r2 : Rp K N0 H v2 d2) (e : ∀ j, d2 = .int j → j = 0) (x : XB CB H E "q") : spLow K CB [.int i, v2] H Q E :=
  ⟨_, v2, .int i, d2, rfl, .int i, r2, (fun z => by cases z), fun i' z => ⟨fun _ => x, fun j z1 z2 => absurd (e j z1) z2⟩⟩
theorem sq_par2 {σ : L2.St} {H : Hp} {D : Ends} {r : TS} {g : TG} {tx ty : TE} (h : tx σ H fun v H1 => ty σ H1 fun u H2 => [v, u].length ≤ sizeLine ∧ ∀ p, H2 p = none → g (.ref p) σ (upd H2 p (.tup [v, u])) (r D)) : tSeq (tAsg (tTup (tCons tx (tCons ty tNil))) g) r D σ H := h
theorem ExB.exN {pn : Addr} {H H1 H2 : Hp} (a : ExB pn H H1) (b : ExN H1 H2) : Kp (N1 pn) H H2 := a.kp.tr b.kp
def spRefused (T : List (Addr × Str)) : Sp := fun vs H Q _ => ∃ (pn c0 t1 : Addr) (cells : List Int) (at_ lf a b : Int), vs = [.ref pn, .ref t1] ∧ Pen H pn c0 cells at_ lf ∧ at_ < 99990 ∧ H t1 = some (.tup [.int a, .int b]) ∧ 0 < b ∧ Sm 400 a ∧ Sm 400 b ∧ LamX.Tabs T H ∧
  ∀ a' l' H', at_ ≤ a' → a' ≤ at_ + 4 → Kp (N1 pn) H H' → Pen H' pn c0 cells a' l' → LamX.Tabs T H' → Q (.bl true) H'
theorem ok_refused (N : Nm mg) {CS CB CM : Addr} (S : Errs K mg CS CB CM) (HD : HeardD K mg) (G : Prog P w K mg base CB CM) (CK : Cal P w K mg base 2 "_law_pick" sPick ["pen", "some"] spPick)
    {T : List (Addr × Str)} {c Pt : Addr} (TB : LamX.TabB base mg c Pt) (hmT : (Pt, qRef) ∈ T) (hu : ∀ p ∈ T, p.1 = Pt → p.2 = qRef)
    {f : Addr} {fd : FuncData} (F : FunD K "_law_refused" "_law_refused" (defArgs sRefused) (defBody sRefused) (defScope sRefused) [] [] f fd) (hc : fd.code = .ref c) : FnOk P w K mg base (L2.CX P w) 7 f fd ["pen", "one"] (spRefused T) := by
  refine FunD_okC F scRefused hc (fun vs H Q E h => ?_) (fun A outer s H vs Q E hr h => ?_)
  · obtain ⟨_, _, _, _, _, _, _, _, rfl, _⟩ := h
    rfl
  · obtain ⟨pn, c0, t1, cells, at_, lf, a, b, rfl, hp, hat, h1, b0, sa, sb, hT, k⟩ := h
    have kN : ("k" : Str) ∉ nRef := by decide +kernel
    refine ⟨_, (pss_cons (ps_set (i := 2) scRefused.nd rfl (.inr rfl) (pe_cal CK bdPick hr (by decide) passL (by rfl) (pa_cons (pv 0) (pa_cons (pe_lst (pa_cons pe_non (pa_cons pe_int (pa_cons pe_str (pa_cons (pe_tup (pa_cons pe_int pa_nil)) (pa_cons (pe_tup (pa_cons pe_int (pa_cons pe_int (pa_cons pe_int pa_nil)))) (pa_cons (pe_tup (pa_cons pe_int (pa_cons pe_int pa_nil))) (pa_cons (pe_tup (pa_cons pe_int (pa_cons (pe_un un_neg pe_int) pa_nil))) (pa_cons (pe_tup (pa_cons pe_int (pa_cons pe_bl pa_nil))) (pa_cons (pe_tup (pa_cons pe_bl (pa_cons pe_int pa_nil))) (pa_cons (pe_tup (pa_cons pe_str (pa_cons pe_int pa_nil))) (pa_cons (pe_tup (pa_cons pe_non (pa_cons pe_int pa_nil))) (pa_cons pe_dnewK (pa_cons (pe_lst pa_nil) (pa_cons (pe_tup (pa_cons pe_int (pa_cons pe_str pa_nil))) pa_nil))))))))))))))) pa_nil))) (hf := .inl rfl))
      (pss_cons (ps_set (i := 3) scRefused.nd rfl (.inr rfl) (pe_cal CK bdPick hr (by decide) passL (by rfl) (pa_cons (pv 0) (pa_cons (pe_lst (pa_cons pe_non (pa_cons (pe_tup (pa_cons pe_int (pa_cons pe_int pa_nil))) (pa_cons (pe_lst (pa_cons pe_int pa_nil)) (pa_cons pe_str pa_nil))))) pa_nil))) (hf := .inl rfl))
      (pss_cons (ps_if (PW.pt (pw_or (pt_cmpR (op_neD hr.units) (pe_heard (k := 4) N S HD (by rfl) TB rfl hmT hu hr (LamX.lamS_by (sc := defScope sRefused) (by decide +kernel)) rfl (fun _ _ _ _ _ => rfl)
          (fun A2 outer2 s2 H2 E2 f2 c2 hr2 => pe_cal (E := E2) G.plus (bdTwo fun _ _ _ _ _ _ _ _ => rfl) hr2 (by decide) (passes_call (takes_of (E := E2) rfl rfl rfl rfl) fun _ _ _ _ h => h) (by rfl) (pa_cons (pv 2) (pa_cons (pv 3) pa_nil))))
        (pe_tup (pa_cons pe_str (pa_cons pe_str pa_nil))) (nomark _)) (pw_or1 (pt_cmpR (op_neD hr.units) (pe_heardD (k := 4) (kp := "k") N S HD (by rfl) TB rfl hmT hu hr (lamSD_by (sc := defScope sRefused) (by decide +kernel)) kN rfl rfl (fun _ _ _ _ _ _ _ => ⟨_, rfl, rfl⟩)
          (fun A2 outer2 s2 H2 E2 f2 c2 hr2 => pe_cal (E := E2) G.plus (bdTwo fun _ _ _ _ _ _ _ _ => rfl) hr2 (by decide) (passes_call (takes_of (E := E2) rfl rfl rfl rfl) fun _ _ _ _ h => h) (by rfl) (pa_cons (pv 1) (pa_cons (pv 2) pa_nil))))
        (pe_tup (pa_cons pe_str (pa_cons pe_str pa_nil))) (nomark _))))) (pss_one (ps_ret pe_bl)) pss_nil)
      (pss_cons (ps_if (PW.pt (pw_or (pt_cmpR (op_neD hr.units) (pe_heard (k := 4) N S HD (by rfl) TB rfl hmT hu hr (LamX.lamS_by (sc := defScope sRefused) (by decide +kernel)) rfl (fun _ _ _ _ _ => rfl)
          (fun A2 outer2 s2 H2 E2 f2 c2 hr2 => pe_cal (E := E2) G.minus (bdTwo fun _ _ _ _ _ _ _ _ => rfl) hr2 (by decide) (passes_call (takes_of (E := E2) rfl rfl rfl rfl) fun _ _ _ _ h => h) (by rfl) (pa_cons (pv 2) (pa_cons (pv 3) pa_nil))))
        (pe_tup (pa_cons pe_str (pa_cons pe_str pa_nil))) (nomark _)) (pw_or1 (pt_cmpR (op_neD hr.units) (pe_heardD (k := 4) (kp := "k") N S HD (by rfl) TB rfl hmT hu hr (lamSD_by (sc := defScope sRefused) (by decide +kernel)) kN rfl rfl (fun _ _ _ _ _ _ _ => ⟨_, rfl, rfl⟩)
          (fun A2 outer2 s2 H2 E2 f2 c2 hr2 => pe_cal (E := E2) G.minus (bdTwo fun _ _ _ _ _ _ _ _ => rfl) hr2 (by decide) (passes_call (takes_of (E := E2) rfl rfl rfl rfl) fun _ _ _ _ h => h) (by rfl) (pa_cons (pv 1) (pa_cons (pv 2) pa_nil))))
        (pe_tup (pa_cons pe_str (pa_cons pe_str pa_nil))) (nomark _))))) (pss_one (ps_ret pe_bl)) pss_nil)
      (pss_cons (ps_if (PW.pt (pw_or (pt_cmpR (op_neD hr.units) (pe_heard (k := 4) N S HD (by rfl) TB rfl hmT hu hr (LamX.lamS_by (sc := defScope sRefused) (by decide +kernel)) rfl (fun _ _ _ _ _ => rfl)
          (fun A2 outer2 s2 H2 E2 f2 c2 hr2 => pe_cal (E := E2) G.times (bdTwo fun _ _ _ _ _ _ _ _ => rfl) hr2 (by decide) (passes_call (takes_of (E := E2) rfl rfl rfl rfl) fun _ _ _ _ h => h) (by rfl) (pa_cons (pv 2) (pa_cons (pv 3) pa_nil))))
        (pe_tup (pa_cons pe_str (pa_cons pe_str pa_nil))) (nomark _)) (pw_or1 (pt_cmpR (op_neD hr.units) (pe_heardD (k := 4) (kp := "k") N S HD (by rfl) TB rfl hmT hu hr (lamSD_by (sc := defScope sRefused) (by decide +kernel)) kN rfl rfl (fun _ _ _ _ _ _ _ => ⟨_, rfl, rfl⟩)
          (fun A2 outer2 s2 H2 E2 f2 c2 hr2 => pe_cal (E := E2) G.times (bdTwo fun _ _ _ _ _ _ _ _ => rfl) hr2 (by decide) (passes_call (takes_of (E := E2) rfl rfl rfl rfl) fun _ _ _ _ h => h) (by rfl) (pa_cons (pv 1) (pa_cons (pv 2) pa_nil))))
        (pe_tup (pa_cons pe_str (pa_cons pe_str pa_nil))) (nomark _))))) (pss_one (ps_ret pe_bl)) pss_nil)
      (pss_cons (ps_if (PW.pt (pw_or (pt_cmpR (op_neD hr.units) (pe_heard (k := 4) N S HD (by rfl) TB rfl hmT hu hr (LamX.lamS_by (sc := defScope sRefused) (by decide +kernel)) rfl (fun _ _ _ _ _ => rfl)
          (fun A2 outer2 s2 H2 E2 f2 c2 hr2 => pe_cal (E := E2) G.over (bdTwo fun _ _ _ _ _ _ _ _ => rfl) hr2 (by decide) (passes_call (takes_of (E := E2) rfl rfl rfl rfl) fun _ _ _ _ h => h) (by rfl) (pa_cons (pv 2) (pa_cons (pe_tup (pa_cons pe_int (pa_cons pe_int pa_nil))) pa_nil))))
        (pe_tup (pa_cons pe_str (pa_cons pe_str pa_nil))) (nomark _)) (pw_or1 (pt_cmpR (op_neD hr.units) (pe_heardD (k := 4) (kp := "k") N S HD (by rfl) TB rfl hmT hu hr (lamSD_by (sc := defScope sRefused) (by decide +kernel)) kN rfl rfl (fun _ _ _ _ _ _ _ => ⟨_, rfl, rfl⟩)
          (fun A2 outer2 s2 H2 E2 f2 c2 hr2 => pe_cal (E := E2) G.over (bdTwo fun _ _ _ _ _ _ _ _ => rfl) hr2 (by decide) (passes_call (takes_of (E := E2) rfl rfl rfl rfl) fun _ _ _ _ h => h) (by rfl) (pa_cons (pv 1) (pa_cons (pv 2) pa_nil))))
        (pe_tup (pa_cons pe_str (pa_cons pe_str pa_nil))) (nomark _))))) (pss_one (ps_ret pe_bl)) pss_nil)
      (pss_cons (ps_if (PW.pt (pw_or (pt_cmpR (op_neD hr.units) (pe_heard (k := 4) N S HD (by rfl) TB rfl hmT hu hr (LamX.lamS_by (sc := defScope sRefused) (by decide +kernel)) rfl (fun _ _ _ _ _ => rfl)
          (fun A2 outer2 s2 H2 E2 f2 c2 hr2 => pe_cal (E := E2) G.ord (bdTwo fun _ _ _ _ _ _ _ _ => rfl) hr2 (by decide) (passes_call (takes_of (E := E2) rfl rfl rfl rfl) fun _ _ _ _ h => h) (by rfl) (pa_cons (pv 2) (pa_cons (pv 3) pa_nil))))
        (pe_tup (pa_cons pe_str (pa_cons pe_str pa_nil))) (nomark _)) (pw_or1 (pt_cmpR (op_neD hr.units) (pe_heardD (k := 4) (kp := "k") N S HD (by rfl) TB rfl hmT hu hr (lamSD_by (sc := defScope sRefused) (by decide +kernel)) kN rfl rfl (fun _ _ _ _ _ _ _ => ⟨_, rfl, rfl⟩)
          (fun A2 outer2 s2 H2 E2 f2 c2 hr2 => pe_cal (E := E2) G.ord (bdTwo fun _ _ _ _ _ _ _ _ => rfl) hr2 (by decide) (passes_call (takes_of (E := E2) rfl rfl rfl rfl) fun _ _ _ _ h => h) (by rfl) (pa_cons (pv 1) (pa_cons (pv 2) pa_nil))))
        (pe_tup (pa_cons pe_str (pa_cons pe_str pa_nil))) (nomark _))))) (pss_one (ps_ret pe_bl)) pss_nil)
      (pss_cons (ps_asg (pe_tup (pa_cons (pe_cal CK bdPick hr (by decide) passL (by rfl) (pa_cons (pv 0) (pa_cons (pe_lst (pa_cons pe_non (pa_cons pe_bl (pa_cons pe_str (pa_cons (pe_tup (pa_cons pe_int pa_nil)) pa_nil))))) pa_nil))) (pa_cons (pe_cal CK bdPick hr (by decide) passL (by rfl) (pa_cons (pv 0) (pa_cons (pe_lst (pa_cons pe_int (pa_cons pe_non (pa_cons pe_bl (pa_cons pe_str (pa_cons (pe_tup (pa_cons pe_int pa_nil)) pa_nil)))))) pa_nil))) pa_nil))) (pg_tup rfl (pgs_cons (pg_name (i := 4) scRefused.nd rfl (Or.inr rfl)) (pgs_cons (pg_name (i := 5) scRefused.nd rfl (Or.inr rfl)) pgs_nil))))
      (pss_one (ps_ret (pe_and (pe_cmpR (op_eqD hr.units) (pe_heard (k := 4) N S HD (by rfl) TB rfl hmT hu hr (LamX.lamS_by (sc := defScope sRefused) (by decide +kernel)) rfl (fun _ _ _ _ _ => rfl)
          (fun A2 outer2 s2 H2 E2 f2 c2 hr2 => pe_cal (E := E2) G.low bdLow hr2 (by decide) (passes_call (takes_of (E := E2) rfl rfl rfl rfl) fun _ _ _ _ h => h) (by rfl) (pa_cons (pv 4) (pa_cons (pv 5) pa_nil))))
        (pe_tup (pa_cons pe_str (pa_cons pe_str pa_nil))) (nomark _)) (pe_one (pe_cmpR (op_eqD hr.units) (pe_heardD (k := 4) (kp := "k") N S HD (by rfl) TB rfl hmT hu hr (lamSD_by (sc := defScope sRefused) (by decide +kernel)) kN rfl rfl (fun _ _ _ _ _ _ _ => ⟨_, rfl, rfl⟩)
          (fun A2 outer2 s2 H2 E2 f2 c2 hr2 => pe_cal (E := E2) G.low bdLow hr2 (by decide) (passes_call (takes_of (E := E2) rfl rfl rfl rfl) fun _ _ _ _ h => h) (by rfl) (pa_cons pe_int (pa_cons (pv 5) pa_nil))))
        (pe_tup (pa_cons pe_str (pa_cons pe_str pa_nil))) (nomark _)))))))))))))), ?_⟩
    have hN0 : ∀ {H' : Hp} {a' l' : Int}, Pen H' pn c0 cells a' l' → ∀ x, N1 pn x → H' x ≠ none := fun p x hx z => by rw [hx, p.p] at z; cases z
    have hN := hN0 hp
    have n1 : t1 ≠ pn := fun z => by rw [z, hp.p] at h1; cases h1
    refine sq_set (te_pickR (K := K) (ds := oddDs) rfl (vr_cons ve_non (vr_cons (ve_int 5) (vr_cons (ve_str _) (vr_cons (ve_tup hN (vr_cons (ve_int 1) vr_nil) (by decide)) (vr_cons (ve_tup hN (vr_cons (ve_int 1) (vr_cons (ve_int 2) (vr_cons (ve_int 3) vr_nil))) (by decide)) (vr_cons (ve_tup hN (vr_cons (ve_int 1) (vr_cons (ve_int 0) vr_nil)) (by decide)) (vr_cons (ve_tup hN (vr_cons (ve_int 1) (vr_cons (ve_neg 2) vr_nil)) (by decide)) (vr_cons (ve_tup hN (vr_cons (ve_int 1) (vr_cons (ve_bl true) vr_nil)) (by decide)) (vr_cons (ve_tup hN (vr_cons (ve_bl true) (vr_cons (ve_int 2) vr_nil)) (by decide)) (vr_cons (ve_tup hN (vr_cons (ve_str _) (vr_cons (ve_int 2) vr_nil)) (by decide)) (vr_cons (ve_tup hN (vr_cons ve_non (vr_cons (ve_int 1) vr_nil)) (by decide)) (vr_cons (ve_dic hN) (vr_cons (ve_lst hN vr_nil (by decide)) (vr_cons (ve_tup hN (vr_cons (ve_int 1) (vr_cons (ve_str _) vr_nil)) (by decide)) vr_nil)))))))))))))) hp (by omega) (by decide) (by decide) fun vo do_ a1 l1 H1 mo ro b1 c1 e1 p1 => ?_)
    have hN := hN0 p1
    refine sq_set (te_pickR (K := K) (ds := badDs) rfl (vr_cons ve_non (vr_cons (ve_tup hN (vr_cons (ve_int 0) (vr_cons (ve_int 0) vr_nil)) (by decide)) (vr_cons (ve_lst hN (vr_cons (ve_int 1) vr_nil) (by decide)) (vr_cons (ve_str _) vr_nil)))) p1 (by omega) (by decide) (by decide) fun vb db a2 l2 H2 mb rb b2 c2 e2 p2 => ?_)
    have eb := e1.tr e2
    have z1 := eb _ _ n1 h1
    have T2 := Tabs_exB hT hp.p eb
    have ro2 := (ro.kp e2.kp).n0
    have rb2 := rb.n0
    have no := odd_no _ mo
    have r1 : Rp K N0 H2 (.ref t1) (.tuple (two a b)) := pr_of (f := (a, b)) z1
    have sa2 := sm_le (b := 2000) (by decide) sa
    have sb2 := sm_le (b := 2000) (by decide) sb
    clear ro rb hN mo mb
    generalize hE3 : H2 = Hb at *
    refine sq_two (by decide +kernel) (by decide +kernel) T2 (fun H1 e E Qf hx => te_call (sp := spBin K CB (fun p q r s => p * s + r * q) (fun p q r s => q * s)) (va2 (val_var rfl) (val_var rfl)) (no_bin1 (ro2.kp e.kp) (rb2.kp e.kp) no hx))
      (fun H1 e E Qf hx => te_call (sp := spBin K CB (fun p q r s => p * s + r * q) (fun p q r s => q * s)) (va2 (val_var rfl) (val_var rfl)) (no_bin2 (r1.kp e.kp) (ro2.kp e.kp) (fr_tup b0) sa2 sb2 no hx)) fun H3 e3 T3 => ?_
    refine sq_two (by decide +kernel) (by decide +kernel) T3 (fun H1 e E Qf hx => te_call (sp := spBin K CB (fun p q r s => p * s - r * q) (fun p q r s => q * s)) (va2 (val_var rfl) (val_var rfl)) (no_bin1 (ro2.kp (e3.tr e).kp) (rb2.kp (e3.tr e).kp) no hx))
      (fun H1 e E Qf hx => te_call (sp := spBin K CB (fun p q r s => p * s - r * q) (fun p q r s => q * s)) (va2 (val_var rfl) (val_var rfl)) (no_bin2 (r1.kp (e3.tr e).kp) (ro2.kp (e3.tr e).kp) (fr_tup b0) sa2 sb2 no hx)) fun H4 e4 T4 => ?_
    have E4 := e3.tr e4
    refine sq_two (by decide +kernel) (by decide +kernel) T4 (fun H1 e E Qf hx => te_call (sp := spBin K CB (fun p q r s => p * r) (fun p q r s => q * s)) (va2 (val_var rfl) (val_var rfl)) (no_bin1 (ro2.kp (E4.tr e).kp) (rb2.kp (E4.tr e).kp) no hx))
      (fun H1 e E Qf hx => te_call (sp := spBin K CB (fun p q r s => p * r) (fun p q r s => q * s)) (va2 (val_var rfl) (val_var rfl)) (no_bin2 (r1.kp (E4.tr e).kp) (ro2.kp (E4.tr e).kp) (fr_tup b0) sa2 sb2 no hx)) fun H5 e5 T5 => ?_
    have E5 := E4.tr e5
    refine sq_two (by decide +kernel) (by decide +kernel) T5 (fun H1 e E Qf hx => te_callx (ta_cons ⟨_, rfl, ta_cons ⟨by show 2 ≤ sizeLine; decide, fun q hq => ?_⟩⟩))
      (fun H1 e E Qf hx => te_call (sp := spOver K CB CM) (va2 (val_var rfl) (val_var rfl)) (no_over2 (r1.kp (E5.tr e).kp) (ro2.kp (E5.tr e).kp) (fr_tup b0) sa2 sb2 no hx)) fun H6 e6 T6 => ?_
    · have xq : Ex H1 (upd H1 q (.tup [.int 0, .int 1])) := ex_new hq
      exact no_over1 ((ro2.kp (E5.tr e).kp).ex xq) (pr_of (f := (0, 1)) upd_same) no (hx.mono xq)
    have E6 := E5.tr e6
    refine sq_two (by decide +kernel) (by decide +kernel) T6 (fun H1 e E Qf hx => te_call (sp := spOrd K CB) (va2 (val_var rfl) (val_var rfl)) (no_ord1 (ro2.kp (E6.tr e).kp) (rb2.kp (E6.tr e).kp) no hx))
      (fun H1 e E Qf hx => te_call (sp := spOrd K CB) (va2 (val_var rfl) (val_var rfl)) (no_ord2 (r1.kp (E6.tr e).kp) (ro2.kp (E6.tr e).kp) (fr_tup b0) sa2 sb2 no hx)) fun H7 e7 T7 => ?_
    have E7 := E6.tr e7
    have p7 := p2.exN E7
    have hN := hN0 p7
    refine sq_par2 (te_pickR (K := K) (ds := noneDs) rfl (vr_cons ve_non (vr_cons (ve_bl true) (vr_cons (ve_str _) (vr_cons (ve_tup hN (vr_cons (ve_int 1) vr_nil) (by decide)) vr_nil)))) p7 (by omega) (by decide) (by decide) fun vn dn a3 l3 H8 mn rn b3 c3 e8 p8 => ?_)
    have hN := hN0 p8
    refine te_pickR (K := K) (ds := noughtDs) rfl (vr_cons (ve_int 0) (vr_cons ve_non (vr_cons (ve_bl false) (vr_cons (ve_str _) (vr_cons (ve_tup hN (vr_cons (ve_int 1) vr_nil) (by decide)) vr_nil))))) p8 (by omega) (by decide) (by decide) fun vt dt a4 l4 H9 mt rt b4 c4 e9 p9 => ⟨by show 2 ≤ sizeLine; decide, fun q hq => ?_⟩
    have xq : Ex H9 (upd H9 q (.tup [vn, vt])) := ex_new hq
    refine ⟨q, _, rfl, SqT.of upd_same, rfl, ⟨_, _, rfl, ⟨_, _, rfl, ⟨rfl, ?_⟩⟩⟩⟩
    have p10 := p9.ex xq
    have T10 := (Tabs_exB (Tabs_exB T7 p7.p e8) p8.p e9).ext xq
    have rn2 := (((rn.kp e9.kp).ex xq)).n0
    have rt2 := (rt.ex xq).n0
    have k10 : Kp (N1 pn) H (upd H9 q (.tup [vn, vt])) := (((eb.kp.tr E7.kp).tr e8.kp).tr e9.kp).tr (Kp.of xq)
    generalize upd H9 q (.tup [vn, vt]) = H10 at *
    have nn := none_no _ mn
    have nt := nought_no _ mt
    refine and_two (by decide +kernel) (by decide +kernel) T10 (fun H1 e E Qf hx => te_call (sp := spLow K CB) (va2 (val_var rfl) (val_var rfl)) (no_low1 (rn2.kp e.kp) (rt2.kp e.kp) nn hx))
      (fun H1 e E Qf hx => te_call (sp := spLow K CB) (va2 val_c (val_var rfl)) (no_low2 (rt2.kp e.kp) nt hx)) fun H11 e11 T11 => ?_
    exact k a4 l4 H11 (by omega) (by omega) (k10.tr e11.kp) (p10.exN e11) T11
end
end K01

set_option Elab.async false
set_option linter.all false
set_option maxRecDepth 100000
set_option maxHeartbeats 8000000
/-! k01: the law -/
namespace K01
open PySem PySem.Spec PyProof.Rows L2 DL
abbrev sLaw : Stmt := top 33
abbrev nLaw : List Str := ["script", "pen", "turn", "one", "other"]
theorem scLaw : FnScope nLaw ["script"] (defScope sLaw) := ⟨rfl, rfl, rfl, by decide +kernel, rfl, by decide +kernel, by decide +kernel⟩
theorem bdRight : Bd "_law_right" sRight ["one", "other"] := fun _ _ _ _ _ _ us hl => match us, hl with | [_, _], _ => rfl
theorem bdRefused : Bd "_law_refused" sRefused ["pen", "one"] := fun _ _ _ _ _ _ us hl => match us, hl with | [_, _], _ => rfl
section
variable {P : Program} {w : World} {K : PySem.W.Frag} {mg : Str → Option Value} {base : Heap}
theorem te_tup2 {σ : L2.St} {H : Hp} {Q : VK} {tx ty : TE} (h : tx σ H fun v H1 => ty σ H1 fun u H2 => [v, u].length ≤ sizeLine ∧ ∀ p, H2 p = none → Q (.ref p) (upd H2 p (.tup [v, u]))) : tTup (tCons tx (tCons ty tNil)) σ H Q := h
theorem sq_for1 {σ : L2.St} {H : Hp} {D : Ends} {tu r : TS} {j n : Nat} {N : Int} (hN : N = n) (hn : n ≤ 100000) (Pv : Nat → L2.St → Hp → Prop) (h0 : Pv 0 σ H)
    (hs : ∀ (i : Nat) σ' H', i < n → Pv i σ' H' → tu { D with nx := Pv (i + 1), ct := Pv (i + 1), bk := r D } (σ'.set j (some (.int (i : Int)))) H') (hd : ∀ σ' H', Pv n σ' H' → r D σ' H') : tSeq (tFor (iRng1 (tCons (tC (.int N)) tNil)) (gName j) tu) r D σ H := by
  refine ⟨N, rfl, by omega, by omega, ?_⟩
  have e : N.toNat = n := by omega
  rw [e]
  refine for_range (lo := 0) (n := n) (D := { D with nx := r D }) Pv h0 (fun i σ' H' hi p => ?_) hd
  show tu { D with nx := Pv (i + 1), ct := Pv (i + 1), bk := r D } (σ'.set j (some (.int ((0 : Int) + (i : Int))))) H'
  rw [Int.zero_add]
  exact hs i σ' H' hi p
theorem sq_ifx' {σ : L2.St} {H : Hp} {D : Ends} {te : TE} {t u : TS} (h : te σ H fun x H1 => ∃ b, x = .bl b ∧ if b = true then t D σ H1 else u D σ H1) : tIfS (tTest te) t u D σ H := h
def spLaw (K : PySem.W.Frag) (T : List (Addr × Str)) : Sp := fun vs H Q _ => ∃ (a0 : Addr) (ns : List Int), vs = [.ref a0] ∧ SqL K H a0 (ns.map V.int) ∧ ns.length ≤ 63 ∧ LamX.Tabs T H ∧ ∀ H', Q (.bl true) H'
theorem ok_law (N : Nm mg) {T : List (Addr × Str)} (CP : Cal P w K mg base 1 "_law_pen" sPen ["script"] (spPen K)) (CD : Cal P w K mg base 1 "_law_draw" sDraw ["pen", "many"] spDraw) (CF : Cal P w K mg base 4 "_law_fraction" sFrac ["pen"] spFrac)
    (CR : Cal P w K mg base 7 "_law_right" sRight ["one", "other"] (spRight T)) (CE : Cal P w K mg base 7 "_law_refused" sRefused ["pen", "one"] (spRefused T))
    {f : Addr} {fd : FuncData} (F : FunD K "law" "law" (defArgs sLaw) (defBody sLaw) (defScope sLaw) [] [] f fd) : FnOk P w K mg base (L2.CX P w) 8 f fd ["script"] (spLaw K T) := by
  refine F.ok scLaw (fun vs H Q E h => ?_) (fun cdv A outer s H vs Q E hr h => ?_)
  · obtain ⟨_, _, rfl, _⟩ := h
    rfl
  · obtain ⟨a0, ns, rfl, hs, hn, hT, k⟩ := h
    refine ⟨_, pss_cons (ps_set (i := 1) scLaw.nd rfl (.inl rfl) (pe_cal CP bdPen hr (by decide) passL (by rfl) (pa_cons (pv 0) pa_nil)))
      (pss_cons (ps_for (passes_of rfl) rfl (pi_range1 (by rfl) N.range (pa_cons pe_int pa_nil)) (pg_name (i := 2) scLaw.nd rfl (Or.inl rfl))
        (pss_cons (ps_par (i := 3) (j := 4) rfl scLaw.nd rfl rfl (by decide) rfl rfl (pa_cons (pe_cal CF bdFrac hr (by decide) passL (by rfl) (pa_cons (pv 1) pa_nil)) (pa_cons (pe_cal CF bdFrac hr (by decide) passL (by rfl) (pa_cons (pv 1) pa_nil)) pa_nil)) (by rfl))
        (Evl.pss_cut (ps_if (pt_cmpR op_eq (pe_cal CD bdDraw hr (by decide) passL (by rfl) (pa_cons (pv 1) (pa_cons pe_int pa_nil))) pe_int (nomark _))
          (pss_one (ps_set (i := 4) scLaw.nd rfl (.inl rfl) (pe_tup (pa_cons (pe_op op_mul (pe_ix ix_tup (pv 3) pe_int (fun _ _ => rfl)) pe_int) (pa_cons (pe_op op_mul (pe_ix ix_tup (pv 3) pe_int (fun _ _ => rfl)) pe_int) pa_nil))))) pss_nil)
        (pss_one (ps_if (PW.pt (pw_or (pt_not (pt_val (pe_cal CR bdRight hr (by decide) passL (by rfl) (pa_cons (pv 3) (pa_cons (pv 4) pa_nil)))))
          (pw_or (pt_not (pt_val (pe_cal CR bdRight hr (by decide) passL (by rfl) (pa_cons (pv 4) (pa_cons (pv 3) pa_nil)))))
          (pw_or1 (pt_not (pt_val (pe_cal CR bdRight hr (by decide) passL (by rfl) (pa_cons (pv 3) (pa_cons (pe_tup (pa_cons pe_int (pa_cons (pe_op op_add pe_int (pe_cal CD bdDraw hr (by decide) passL (by rfl) (pa_cons (pv 1) (pa_cons pe_int pa_nil)))) pa_nil))) pa_nil)))))))))
          (pss_one (ps_ret pe_bl)) pss_nil)))))
      (pss_one (ps_ret (pe_and (pe_cal CE bdRefused hr (by decide) passL (by rfl) (pa_cons (pv 1) (pa_cons (pv 3) pa_nil))) (pe_one (pe_cal CE bdRefused hr (by decide) passL (by rfl) (pa_cons (pv 1) (pa_cons (pe_tup (pa_cons pe_int (pa_cons pe_int pa_nil))) pa_nil)))))))), ?_⟩
    refine sq_set (te_call (sp := spPen K) (va1 (val_var rfl)) ⟨a0, ns, rfl, hs, hn, fun pn c0 cells H1 x1 n1 p1 => ?_⟩)
    have T1 := hT.ext x1
    clear hT hs
    refine sq_for1 (n := 8) rfl (by decide) (fun i σ' H' => ∃ (at_ lf : Int) (o2 o3 o4 : Option V), Pen H' pn c0 cells at_ lf ∧ at_ ≤ 20 * i ∧ LamX.Tabs T H' ∧ σ' = [some (.ref a0), some (.ref pn), o2, o3, o4] ∧
      (i = 0 ∨ ∃ (t : Addr) (x y : Int), o3 = some (.ref t) ∧ H' t = some (.tup [.int x, .int y]) ∧ 0 < y ∧ Sm 400 x ∧ Sm 400 y)) ?_ ?_ ?_
    · exact ⟨0, 0, none, none, none, p1, by omega, T1, rfl, .inl rfl⟩
    · rintro i σ' H2 hi ⟨at_, lf, o2, o3, o4, hp, hat, hT, rfl, _⟩
      refine sq_par (ta_cons (te_call (sp := spFrac) (va1 (val_var rfl)) ⟨pn, c0, cells, at_, lf, rfl, hp, by omega, fun x y a1 l1 t1 H3 sx sy y0 b1 c1 e1 p3 nt1 ht1 => ta_cons (te_call (sp := spFrac) (va1 (val_var rfl)) ⟨pn, c0, cells, a1, l1, rfl, p3, by omega, fun x2 y2 a2 l2 t2 H4 sx2 sy2 y02 b2 c2 e2 p4 nt2 ht2 => ⟨_, _, rfl, ?_⟩⟩)⟩))
      have n1 : t1 ≠ pn := fun z => by rw [z, p3.p] at ht1; cases ht1
      have n2 : t2 ≠ pn := fun z => by rw [z, p4.p] at ht2; cases ht2
      have ht14 := e2 _ _ n1 ht1
      have T4 := Tabs_exB (Tabs_exB hT hp.p e1) p3.p e2
      have s1x : Sm 400 x := n_le sx (by decide)
      have s1y : Sm 400 y := n_le sy (by decide)
      have s2x : Sm 400 x2 := n_le sx2 (by decide)
      have s2y : Sm 400 y2 := n_le sy2 (by decide)
      clear hT e1 e2 p3
      refine sq_cut (fun σ' H5 => ∃ (t3 : Addr) (c d a3 l3 : Int), σ' = [some (.ref a0), some (.ref pn), some (.int i), some (.ref t1), some (.ref t3)] ∧ H5 t1 = some (.tup [.int x, .int y]) ∧ H5 t3 = some (.tup [.int c, .int d]) ∧ 0 < d ∧ Sm 400 c ∧ Sm 400 d ∧
        Pen H5 pn c0 cells a3 l3 ∧ a3 ≤ at_ + 17 ∧ LamX.Tabs T H5) ?_ ?_
      · refine sq_ifx' (te_opx (te_call (sp := spDraw) (va2 (val_var rfl) val_c) ⟨pn, c0, cells, a2, l2, 4, rfl, p4, by omega, by decide, n_le (a := 3) (by decide) (by decide), fun dd a3 l3 H5 d0 d1 b3 c3 e3 p5 => ⟨rfl, _, rfl, ?_⟩⟩))
        have T5 := Tabs_exB T4 p4.p e3
        have h51 := e3 _ _ n1 ht14
        have h52 := e3 _ _ n2 ht2
        refine ite2 (fun _ => ?_) (fun _ => ?_)
        · have m1 : CMul x 3 := .inr ⟨by decide, by decide⟩
          have m2 : CMul y 3 := .inr ⟨by decide, by decide⟩
          refine te_tup2 (vl_mul (vl_ixT (val_var rfl) val_c (SqT.of h51) (atI_nat (j := 0) rfl)) val_c m1 _ (vl_mul (vl_ixT (val_var rfl) val_c (SqT.of h51) (atI_nat (j := 1) rfl)) val_c m2 _ ⟨by show 2 ≤ sizeLine; decide, fun t3 ht3 => ?_⟩))
          have x3 : Ex H5 (upd H5 t3 (.tup [.int (x * 3), .int (y * 3)])) := ex_new ht3
          exact ⟨t3, x * 3, y * 3, a3, l3, rfl, x3 _ _ h51, upd_same, by omega, n_mul (b := 2) sx (by decide) (by decide), n_mul (b := 2) sy (by decide) (by decide), p5.ex x3, by omega, T5.ext x3⟩
        · exact ⟨t2, x2, y2, a3, l3, rfl, h51, h52, y02, s2x, s2y, p5, by omega, T5⟩
      · rintro σ' H5 ⟨t3, c, d, a3, l3, rfl, h51, h53, d0, sc, sd, p5, ba, T5⟩
        refine te_call (sp := spRight T) (va2 (val_var rfl) (val_var rfl)) ⟨t1, t3, x, y, c, d, rfl, h51, h53, y0, d0, s1x, s1y, sc, sd, T5, fun H6 e6 T6 => ⟨true, rfl, iteF ?_⟩⟩
        have h61 := e6 _ _ h51 (fun ps z => by cases z)
        have h63 := e6 _ _ h53 (fun ps z => by cases z)
        have p6 := p5.exN e6
        refine te_call (sp := spRight T) (va2 (val_var rfl) (val_var rfl)) ⟨t3, t1, c, d, x, y, rfl, h63, h61, d0, y0, sc, sd, s1x, s1y, T6, fun H7 e7 T7 => ⟨true, rfl, iteF ?_⟩⟩
        have h71 := e7 _ _ h61 (fun ps z => by cases z)
        have p7 := p6.exN e7
        refine te_callx (ta_cons ⟨_, rfl, ta_cons (te_tup2 (val_c _ (te_op val_c (te_call (sp := spDraw) (va2 (val_var rfl) val_c) ⟨pn, c0, cells, a3, l3, 9, rfl, p7, by omega, by decide, n_le (a := 4) (by decide) (by decide), fun dd a4 l4 H8 dd0 dd1 b4 c4 e8 p8 => ⟨1, dd, rfl, rfl, by show 2 ≤ sizeLine; decide, fun t5 ht5 => ?_⟩⟩))))⟩)
        have T8 := Tabs_exB T7 p7.p e8
        have h81 := e8 _ _ n1 h71
        have x9 : Ex H8 (upd H8 t5 (.tup [.int 0, .int (1 + dd)])) := ex_new ht5
        have s5 : (1 + dd).natAbs < 2 ^ 5 := by
          have e : (2 : Nat) ^ 5 = 32 := by decide
          omega
        have sdd : Sm 400 (1 + dd) := n_le s5 (by decide)
        refine ⟨t1, t5, x, y, 0, 1 + dd, rfl, x9 _ _ h81, upd_same, y0, by omega, s1x, s1y, (by show (0 : Int).natAbs < _; exact Nat.two_pow_pos _), sdd, T8.ext x9, fun H10 e10 T10 => ⟨true, rfl, iteF ?_⟩⟩
        have h101 := e10 _ _ (x9 _ _ h81) (fun ps z => by cases z)
        exact ⟨a4, l4, _, _, _, (p8.ex x9).exN e10, by omega, T10, rfl, .inr ⟨t1, x, y, rfl, h101, y0, s1x, s1y⟩⟩
    · rintro σ' H2 ⟨at_, lf, o2, o3, o4, hp, hat, hT, rfl, h | ⟨t, x, y, rfl, ht, y0, sx, sy⟩⟩
      · cases h
      refine rt_x (te_call (sp := spRefused T) (va2 (val_var rfl) (val_var rfl)) ⟨pn, c0, t, cells, at_, lf, x, y, rfl, hp, by omega, ht, y0, sx, sy, hT, fun a1 l1 H3 b1 c1 k1 p3 T3 => ⟨true, rfl, iteT ?_⟩⟩)
      refine te_callx (ta_cons ⟨_, rfl, ta_cons (te_tup2 (val_c _ (val_c _ ⟨by show 2 ≤ sizeLine; decide, fun t5 ht5 => ?_⟩)))⟩)
      have x9 : Ex H3 (upd H3 t5 (.tup [.int 0, .int 1])) := ex_new ht5
      exact ⟨pn, c0, t5, cells, a1, l1, 0, 1, rfl, p3.ex x9, by omega, upd_same, by decide, n_le (a := 1) (by decide) (by decide), n_le (a := 1) (by decide) (by decide), T3.ext x9, fun _ _ H4 _ _ _ _ _ => k H4⟩
end
end K01

set_option Elab.async false
set_option linter.all false
set_option maxRecDepth 100000
set_option maxHeartbeats 0
/-! k01: the head: what the top leaves behind -/
namespace K01
open PySem PySem.Spec PyProof.Rows L2 DL
def inCls (i : Nat) : Stmt := match top i with
  | .ClassDef _ _ _ b _ _ _ _ _ _ _ => b.getD 0 (.Pass ⟨0, 0, 0, 0⟩)
  | _ => .Pass ⟨0, 0, 0, 0⟩
abbrev dF (x : Str) (i : Nat) : He.DefD := ⟨(x, none), x, x, defArgs (top i), defBody (top i), defScope (top i), [], []⟩
abbrev dM (x q : Str) (i : Nat) : He.DefD := ⟨(x, some "__init__"), "__init__", q, defArgs (inCls i), defBody (inCls i), defScope (inCls i), [], []⟩
def fn : List He.DefD := [dF "is_integer" 6, dF "is_fraction" 8, dF "need_fraction" 9, dF "reduced" 10, dF "added" 11, dF "taken" 12, dF "multiplied" 13, dF "divided" 14, dF "is_less" 15, dF "lowest" 16, dF "plus" 17, dF "minus" 18, dF "times" 19, dF "over" 20, dF "order_of" 21, dF "_law_pen" 23, dF "_law_draw" 24, dF "_law_pick" 25, dF "_law_great" 26, dF "_law_divisor" 27, dF "_law_is" 28, dF "_law_fraction" 29, dF "_law_heard" 30, dF "_law_right" 31, dF "_law_refused" 32, dF "law" 33, dM "BadValue" "BadValue.__init__" 3, dM "Misfit" "Misfit.__init__" 4]
def fa : List He.Fa := [.glo "is_integer", .glo "is_fraction", .glo "need_fraction", .glo "reduced", .glo "added", .glo "taken", .glo "multiplied", .glo "divided", .glo "is_less", .glo "lowest", .glo "plus", .glo "minus", .glo "times", .glo "over", .glo "order_of", .glo "_law_pen", .glo "_law_draw", .glo "_law_pick", .glo "_law_great", .glo "_law_divisor", .glo "_law_is", .glo "_law_fraction", .glo "_law_heard", .glo "_law_right", .glo "_law_refused", .glo "law", .glo "MarbleError", .glo "BadValue", .glo "Misfit", .free "isinstance", .free "int", .free "bool", .free "list", .free "tuple", .free "len", .free "abs", .free "repr", .free "range"]
def dR : He.Defn := ("_law_right", none)
def dE : He.Defn := ("_law_refused", none)
def tf : List He.Defn := [dR, dE]
def exK (K : PySem.W.Frag) : Bool := decide (PySem.W.nsIn K mainGlobals "gcd" = some (some (.builtin "math.gcd"))) && (errB K "BadValue" "part" && (errB K "Misfit" "part" &&
  (decide (PySem.W.exmOne K (.ref (He.ga K "BadValue")) (.ref (He.ga K "MarbleError")) = some true) && (decide (PySem.W.exmOne K (.ref (He.ga K "Misfit")) (.ref (He.ga K "MarbleError")) = some true) &&
  (decide (PySem.W.kitOne K (.ref (He.ga K "BadValue")) (.ref (He.ga K "BadValue")) = some true) && (decide (PySem.W.kitOne K (.ref (He.ga K "BadValue")) (.ref (He.ga K "Misfit")) = some false) &&
  (decide (PySem.W.kitOne K (.ref (He.ga K "Misfit")) (.ref (He.ga K "BadValue")) = some false) && (decide (PySem.W.kitOne K (.ref (He.ga K "Misfit")) (.ref (He.ga K "Misfit")) = some true) &&
  decide ((He.cT K dR).2 ≠ (He.cT K dE).2)))))))))
abbrev R : PySem.W.OpenRow := PySem.W.OpenLaw.row PySem.Challenge.rw_countsalone_k01_fractions_of_any_size
abbrev hk : PySem.W.Hook := He.hookX 4 fa fn [] tf exK
def ob (s : PySem.W.SharedT) : He.AlX := He.obsX 4 fa fn [] tf exK (HandSHeadRun.getT s)
theorem ob_eq (s : PySem.W.SharedT) : ob s = hk.obs s.abs := He.obsX_eq (HandSHeadRun.getT_eq s)
def loose : List Str := ["__name__", "MarbleError", "BadValue", "Misfit", "is_integer", "is_fraction", "need_fraction", "reduced", "added", "taken", "multiplied", "divided", "is_less", "lowest", "plus", "minus", "times", "over", "order_of", "_law_pen", "_law_draw", "_law_pick", "_law_great", "_law_divisor", "_law_is", "_law_fraction", "_law_heard", "_law_right", "_law_refused"]
abbrev qv : Program := PySem.W.view R.prog [0, 33]
theorem run (w : World) : HandSHeadRun.RunEqI R qv hk ob 2000 loose w := by
  unfold HandSHeadRun.RunEqI
  kernel_rfl
end K01

set_option Elab.async false
set_option linter.all false
set_option maxRecDepth 100000
set_option maxHeartbeats 8000000
/-! k01: the head's facts handed to the defs -/
namespace DL
open PySem PySem.Spec PyProof.Rows L2
/-- an own error's class, from the head's facts -/
theorem errB_ok {P : Program} {w : World} {K : PySem.W.Frag} {mg : Str → Option Value} {base : Heap} {x f q : Str} {st : Stmt} {fd : FuncData} (h : errB K x f = true) (g : mg x = some (.ref (He.ga K x))) (F : FunD K "__init__" q (defArgs st) (defBody st) (defScope st) [] [] (He.ma K (He.ga K x) "__init__") fd)
    (B : Binds K fd ["self", f] []) (ok : FnOk P w K mg base (L2.CX P w) 1 (He.ma K (He.ga K x) "__init__") fd ["self", f] (spXI K (He.ga K x) f)) : XCls P w K mg base x f (He.ga K x) := by
  obtain ⟨q1, h⟩ := He.ba h
  obtain ⟨q2, h⟩ := He.ba h
  obtain ⟨q3, h⟩ := He.ba h
  obtain ⟨q4, q5⟩ := He.ba h
  exact ⟨g, oexB_ok q1, xcB_ok q2, of_decide_eq_true q3, _, fd, q, st, of_decide_eq_true q4, of_decide_eq_true q5, F, B, ok⟩
theorem code_of {K : PySem.W.Frag} {x qual : Str} {params : Arguments} {body : List Stmt} {scope : Scope} {dvs : List V} {kws : List (Str × V)} {fd : FuncData} {p : He.Defn} (F : FunD K x qual params body scope dvs kws (He.fAd K p) fd) : fd.code = .ref (He.codeOf K p) := by
  obtain ⟨oc, od, dV, kV, doc, pm, an, cdv, ct, osl, rfl, lk, hcd, _, _⟩ := F.ex
  obtain ⟨c, e⟩ := He.codeIn_ref hcd
  rw [He.codeOf_eq lk e]
  exact e
end DL
namespace DL
open PySem PySem.Spec PyProof.Rows L2
theorem Cal.of {P : Program} {w : World} {K : PySem.W.Frag} {mg : Str → Option Value} {base : Heap} {k : Nat} {x : Str} {st : Stmt} {ps : List Str} {sp : Sp} {f : Addr} {fd : FuncData} (hm : mg x = some (.ref f)) (F : FunD K x x (defArgs st) (defBody st) (defScope st) [] [] f fd) (G : FnOk P w K mg base (L2.CX P w) k f fd ps sp) : Cal P w K mg base k x st ps sp := ⟨⟨f, fd, hm, F, G⟩⟩
end DL
namespace K01
open PySem PySem.Spec PyProof.Rows L2 DL
theorem facts {w : World} {K : PySem.W.Frag} {h : Heap} {mg : Str → Option Value} {f : Addr} (X : K.In h) (G : h.Ns mainGlobals mg) (hfa : mg ("law" : Str) = some (.ref f)) (c : He.SaysX fa fn [] tf exK w h K) :
    LamX.LawAtS PySem.Challenge.rw_countsalone_k01_fractions_of_any_size w K (L2.CX PySem.Challenge.rw_countsalone_k01_fractions_of_any_size.prog w) 8 63 "script" mg f h := by
  have cd := c.t.d
  have gl : ∀ (i : Nat) (x : Str), fa[i]? = some (.glo x) → mg x = some (.ref (He.ga K x)) := fun i x e => He.glo_ok X G (cd.fact i e)
  have fr : ∀ (i : Nat) (x : Str), fa[i]? = some (.free x) → mg x = none := fun i x e => He.free_ok X G (cd.fact i e)
  obtain ⟨d_is_integer, F_is_integer⟩ := cd.def_ 0 (d := dF "is_integer" 6) rfl
  have F_is_integer : FunD K "is_integer" "is_integer" (defArgs (top 6)) (defBody (top 6)) (defScope (top 6)) [] [] (He.ga K "is_integer") d_is_integer := F_is_integer
  obtain ⟨d_is_fraction, F_is_fraction⟩ := cd.def_ 1 (d := dF "is_fraction" 8) rfl
  have F_is_fraction : FunD K "is_fraction" "is_fraction" (defArgs (top 8)) (defBody (top 8)) (defScope (top 8)) [] [] (He.ga K "is_fraction") d_is_fraction := F_is_fraction
  obtain ⟨d_need_fraction, F_need_fraction⟩ := cd.def_ 2 (d := dF "need_fraction" 9) rfl
  have F_need_fraction : FunD K "need_fraction" "need_fraction" (defArgs (top 9)) (defBody (top 9)) (defScope (top 9)) [] [] (He.ga K "need_fraction") d_need_fraction := F_need_fraction
  obtain ⟨d_reduced, F_reduced⟩ := cd.def_ 3 (d := dF "reduced" 10) rfl
  have F_reduced : FunD K "reduced" "reduced" (defArgs (top 10)) (defBody (top 10)) (defScope (top 10)) [] [] (He.ga K "reduced") d_reduced := F_reduced
  obtain ⟨d_added, F_added⟩ := cd.def_ 4 (d := dF "added" 11) rfl
  have F_added : FunD K "added" "added" (defArgs (top 11)) (defBody (top 11)) (defScope (top 11)) [] [] (He.ga K "added") d_added := F_added
  obtain ⟨d_taken, F_taken⟩ := cd.def_ 5 (d := dF "taken" 12) rfl
  have F_taken : FunD K "taken" "taken" (defArgs (top 12)) (defBody (top 12)) (defScope (top 12)) [] [] (He.ga K "taken") d_taken := F_taken
  obtain ⟨d_multiplied, F_multiplied⟩ := cd.def_ 6 (d := dF "multiplied" 13) rfl
  have F_multiplied : FunD K "multiplied" "multiplied" (defArgs (top 13)) (defBody (top 13)) (defScope (top 13)) [] [] (He.ga K "multiplied") d_multiplied := F_multiplied
  obtain ⟨d_divided, F_divided⟩ := cd.def_ 7 (d := dF "divided" 14) rfl
  have F_divided : FunD K "divided" "divided" (defArgs (top 14)) (defBody (top 14)) (defScope (top 14)) [] [] (He.ga K "divided") d_divided := F_divided
  obtain ⟨d_is_less, F_is_less⟩ := cd.def_ 8 (d := dF "is_less" 15) rfl
  have F_is_less : FunD K "is_less" "is_less" (defArgs (top 15)) (defBody (top 15)) (defScope (top 15)) [] [] (He.ga K "is_less") d_is_less := F_is_less
  obtain ⟨d_lowest, F_lowest⟩ := cd.def_ 9 (d := dF "lowest" 16) rfl
  have F_lowest : FunD K "lowest" "lowest" (defArgs (top 16)) (defBody (top 16)) (defScope (top 16)) [] [] (He.ga K "lowest") d_lowest := F_lowest
  obtain ⟨d_plus, F_plus⟩ := cd.def_ 10 (d := dF "plus" 17) rfl
  have F_plus : FunD K "plus" "plus" (defArgs (top 17)) (defBody (top 17)) (defScope (top 17)) [] [] (He.ga K "plus") d_plus := F_plus
  obtain ⟨d_minus, F_minus⟩ := cd.def_ 11 (d := dF "minus" 18) rfl
  have F_minus : FunD K "minus" "minus" (defArgs (top 18)) (defBody (top 18)) (defScope (top 18)) [] [] (He.ga K "minus") d_minus := F_minus
  obtain ⟨d_times, F_times⟩ := cd.def_ 12 (d := dF "times" 19) rfl
  have F_times : FunD K "times" "times" (defArgs (top 19)) (defBody (top 19)) (defScope (top 19)) [] [] (He.ga K "times") d_times := F_times
  obtain ⟨d_over, F_over⟩ := cd.def_ 13 (d := dF "over" 20) rfl
  have F_over : FunD K "over" "over" (defArgs (top 20)) (defBody (top 20)) (defScope (top 20)) [] [] (He.ga K "over") d_over := F_over
  obtain ⟨d_order_of, F_order_of⟩ := cd.def_ 14 (d := dF "order_of" 21) rfl
  have F_order_of : FunD K "order_of" "order_of" (defArgs (top 21)) (defBody (top 21)) (defScope (top 21)) [] [] (He.ga K "order_of") d_order_of := F_order_of
  obtain ⟨d__law_pen, F__law_pen⟩ := cd.def_ 15 (d := dF "_law_pen" 23) rfl
  have F__law_pen : FunD K "_law_pen" "_law_pen" (defArgs (top 23)) (defBody (top 23)) (defScope (top 23)) [] [] (He.ga K "_law_pen") d__law_pen := F__law_pen
  obtain ⟨d__law_draw, F__law_draw⟩ := cd.def_ 16 (d := dF "_law_draw" 24) rfl
  have F__law_draw : FunD K "_law_draw" "_law_draw" (defArgs (top 24)) (defBody (top 24)) (defScope (top 24)) [] [] (He.ga K "_law_draw") d__law_draw := F__law_draw
  obtain ⟨d__law_pick, F__law_pick⟩ := cd.def_ 17 (d := dF "_law_pick" 25) rfl
  have F__law_pick : FunD K "_law_pick" "_law_pick" (defArgs (top 25)) (defBody (top 25)) (defScope (top 25)) [] [] (He.ga K "_law_pick") d__law_pick := F__law_pick
  obtain ⟨d__law_great, F__law_great⟩ := cd.def_ 18 (d := dF "_law_great" 26) rfl
  have F__law_great : FunD K "_law_great" "_law_great" (defArgs (top 26)) (defBody (top 26)) (defScope (top 26)) [] [] (He.ga K "_law_great") d__law_great := F__law_great
  obtain ⟨d__law_divisor, F__law_divisor⟩ := cd.def_ 19 (d := dF "_law_divisor" 27) rfl
  have F__law_divisor : FunD K "_law_divisor" "_law_divisor" (defArgs (top 27)) (defBody (top 27)) (defScope (top 27)) [] [] (He.ga K "_law_divisor") d__law_divisor := F__law_divisor
  obtain ⟨d__law_is, F__law_is⟩ := cd.def_ 20 (d := dF "_law_is" 28) rfl
  have F__law_is : FunD K "_law_is" "_law_is" (defArgs (top 28)) (defBody (top 28)) (defScope (top 28)) [] [] (He.ga K "_law_is") d__law_is := F__law_is
  obtain ⟨d__law_fraction, F__law_fraction⟩ := cd.def_ 21 (d := dF "_law_fraction" 29) rfl
  have F__law_fraction : FunD K "_law_fraction" "_law_fraction" (defArgs (top 29)) (defBody (top 29)) (defScope (top 29)) [] [] (He.ga K "_law_fraction") d__law_fraction := F__law_fraction
  obtain ⟨d__law_heard, F__law_heard⟩ := cd.def_ 22 (d := dF "_law_heard" 30) rfl
  have F__law_heard : FunD K "_law_heard" "_law_heard" (defArgs (top 30)) (defBody (top 30)) (defScope (top 30)) [] [] (He.ga K "_law_heard") d__law_heard := F__law_heard
  obtain ⟨d__law_right, F__law_right⟩ := cd.def_ 23 (d := dF "_law_right" 31) rfl
  have F__law_right : FunD K "_law_right" "_law_right" (defArgs (top 31)) (defBody (top 31)) (defScope (top 31)) [] [] (He.ga K "_law_right") d__law_right := F__law_right
  obtain ⟨d__law_refused, F__law_refused⟩ := cd.def_ 24 (d := dF "_law_refused" 32) rfl
  have F__law_refused : FunD K "_law_refused" "_law_refused" (defArgs (top 32)) (defBody (top 32)) (defScope (top 32)) [] [] (He.ga K "_law_refused") d__law_refused := F__law_refused
  obtain ⟨d_law, F_law⟩ := cd.def_ 25 (d := dF "law" 33) rfl
  have F_law : FunD K "law" "law" (defArgs (top 33)) (defBody (top 33)) (defScope (top 33)) [] [] (He.ga K "law") d_law := F_law
  obtain ⟨d_B, F_B⟩ := cd.def_ 26 (d := dM "BadValue" "BadValue.__init__" 3) rfl
  have F_B : FunD K "__init__" "BadValue.__init__" (defArgs (inCls 3)) (defBody (inCls 3)) (defScope (inCls 3)) [] [] (He.ma K (He.ga K "BadValue") "__init__") d_B := F_B
  obtain ⟨d_M, F_M⟩ := cd.def_ 27 (d := dM "Misfit" "Misfit.__init__" 4) rfl
  have F_M : FunD K "__init__" "Misfit.__init__" (defArgs (inCls 4)) (defBody (inCls 4)) (defScope (inCls 4)) [] [] (He.ma K (He.ga K "Misfit") "__init__") d_M := F_M
  obtain ⟨x1, ex⟩ := He.ba c.more
  obtain ⟨x2, ex⟩ := He.ba ex
  obtain ⟨x3, ex⟩ := He.ba ex
  obtain ⟨x4, ex⟩ := He.ba ex
  obtain ⟨x5, ex⟩ := He.ba ex
  obtain ⟨x6, ex⟩ := He.ba ex
  obtain ⟨x7, ex⟩ := He.ba ex
  obtain ⟨x8, ex⟩ := He.ba ex
  obtain ⟨x9, x10⟩ := He.ba ex
  have hne : (He.cT K dR).2 ≠ (He.cT K dE).2 := of_decide_eq_true x10
  have N : Nm mg := ⟨fr 29 _ rfl, fr 30 _ rfl, fr 31 _ rfl, fr 32 _ rfl, fr 33 _ rfl, fr 34 _ rfl, fr 35 _ rfl, fr 36 _ rfl, fr 37 _ rfl, PySem.W.mg_of X G (of_decide_eq_true x1)⟩
  have gS := gl 26 "MarbleError" rfl
  have gB := gl 27 "BadValue" rfl
  have gM := gl 28 "Misfit" rfl
  have e := hfa.symm.trans (gl 25 "law" rfl)
  cases e
  have bX : ∀ {q : Str} {st : Stmt} {fI : Addr} {fd : FuncData}, FunD K "__init__" q (defArgs st) (defBody st) (defScope st) [] [] fI fd → (∀ (kV doc pm : Value) (an : Option Addr) (cdv ct : Value) (us : List Value), us.length = 2 → bindArgs (PySem.W.fnOf "__init__" q (defArgs st) (defBody st) (defScope st) .none kV doc pm an cdv ct) ⟨us, []⟩ = pure ([("self" : Str), "part"].zip us)) → Binds K fd ["self", "part"] [] := fun F b => F.bindsN b
  have BB := bX F_B fun _ _ _ _ _ _ us hl => match us, hl with | [_, _], _ => rfl
  have BM := bX F_M fun _ _ _ _ _ _ us hl => match us, hl with | [_, _], _ => rfl
  have bL := F_law.bindsA (ps := ["script"]) fun _ _ _ _ _ _ us hl => match us, hl with | [_], _ => rfl
  let T : List (Addr × Str) := [((He.cT K dR).2, qRight), ((He.cT K dE).2, qRef)]
  refine ⟨d_law, [He.cT K dR, He.cT K dE], spLaw K T, fun p hp => ?_, fun p hp => ?_, fun p hp => ?_, fun s u => bL s [u] rfl, fun H a ns hl _ hH hS => ?_, fun base KB NB hTB => ?_⟩
  · rcases List.mem_cons.mp hp with rfl | hp
    · exact c.empty dR (by simp [tf])
    · rcases List.mem_cons.mp hp with rfl | hp
      · exact c.empty dE (by simp [tf])
      · cases hp
  · rcases List.mem_cons.mp hp with rfl | hp
    · exact c.out dR (by simp [tf])
    · rcases List.mem_cons.mp hp with rfl | hp
      · exact c.out dE (by simp [tf])
      · cases hp
  · rcases List.mem_cons.mp hp with rfl | hp
    · exact PySem.W.codeHd_of_K X (c.hd dR (by simp [tf]))
    · rcases List.mem_cons.mp hp with rfl | hp
      · exact PySem.W.codeHd_of_K X (c.hd dE (by simp [tf]))
      · cases hp
  · refine ⟨a, ns, rfl, hS, hl, fun p hp => ?_, fun _ => rfl⟩
    rcases List.mem_cons.mp hp with rfl | hp
    · exact LamX.TabS.nil (hH _ List.mem_cons_self)
    · rcases List.mem_cons.mp hp with rfl | hp
      · exact LamX.TabS.nil (hH _ (List.mem_cons_of_mem _ List.mem_cons_self))
      · cases hp
  · have TR := hTB _ List.mem_cons_self
    have TE := hTB _ (List.mem_cons_of_mem _ List.mem_cons_self)
    have uR : ∀ p ∈ T, p.1 = (He.cT K dR).2 → p.2 = qRight := fun p hp e => by
      rcases List.mem_cons.mp hp with rfl | hp
      · rfl
      · rcases List.mem_cons.mp hp with rfl | hp
        · exact absurd e.symm hne
        · cases hp
    have uE : ∀ p ∈ T, p.1 = (He.cT K dE).2 → p.2 = qRef := fun p hp e => by
      rcases List.mem_cons.mp hp with rfl | hp
      · exact absurd e hne
      · rcases List.mem_cons.mp hp with rfl | hp
        · rfl
        · cases hp
    have TB : XCls PySem.Challenge.rw_countsalone_k01_fractions_of_any_size.prog w K mg base "BadValue" "part" (He.ga K "BadValue") := errB_ok x2 gB F_B BB (xi_ok F_B ⟨rfl, rfl, rfl, by decide +kernel, rfl, by decide +kernel, by decide +kernel⟩ rfl rfl rfl (by decide) (by decide))
    have TM : XCls PySem.Challenge.rw_countsalone_k01_fractions_of_any_size.prog w K mg base "Misfit" "part" (He.ga K "Misfit") := errB_ok x3 gM F_M BM (xi_ok F_M ⟨rfl, rfl, rfl, by decide +kernel, rfl, by decide +kernel, by decide +kernel⟩ rfl rfl rfl (by decide) (by decide))
    have S : Errs K mg (He.ga K "MarbleError") (He.ga K "BadValue") (He.ga K "Misfit") := ⟨gS, gB, gM, TB.xc, TM.xc, TB.no, TM.no, of_decide_eq_true x4, of_decide_eq_true x5, of_decide_eq_true x6, of_decide_eq_true x7, of_decide_eq_true x8, of_decide_eq_true x9⟩
    have c_isint := Cal.of (P := PySem.Challenge.rw_countsalone_k01_fractions_of_any_size.prog) (w := w) (base := base) (gl 0 "is_integer" rfl) F_is_integer (ok_isInt N F_is_integer)
    have c_isfr := Cal.of (P := PySem.Challenge.rw_countsalone_k01_fractions_of_any_size.prog) (w := w) (base := base) (gl 1 "is_fraction" rfl) F_is_fraction (ok_isFr N c_isint F_is_fraction)
    have c_red := Cal.of (P := PySem.Challenge.rw_countsalone_k01_fractions_of_any_size.prog) (w := w) (base := base) (gl 3 "reduced" rfl) F_reduced (ok_red N F_reduced)
    have c_add := Cal.of (P := PySem.Challenge.rw_countsalone_k01_fractions_of_any_size.prog) (w := w) (base := base) (gl 4 "added" rfl) F_added (ok_add c_red F_added)
    have c_tak := Cal.of (P := PySem.Challenge.rw_countsalone_k01_fractions_of_any_size.prog) (w := w) (base := base) (gl 5 "taken" rfl) F_taken (ok_tak c_red F_taken)
    have c_mul := Cal.of (P := PySem.Challenge.rw_countsalone_k01_fractions_of_any_size.prog) (w := w) (base := base) (gl 6 "multiplied" rfl) F_multiplied (ok_mul c_red F_multiplied)
    have c_div := Cal.of (P := PySem.Challenge.rw_countsalone_k01_fractions_of_any_size.prog) (w := w) (base := base) (gl 7 "divided" rfl) F_divided (ok_div c_red F_divided)
    have c_less := Cal.of (P := PySem.Challenge.rw_countsalone_k01_fractions_of_any_size.prog) (w := w) (base := base) (gl 8 "is_less" rfl) F_is_less (ok_less F_is_less)
    have c_need := Cal.of (P := PySem.Challenge.rw_countsalone_k01_fractions_of_any_size.prog) (w := w) (base := base) (gl 2 "need_fraction" rfl) F_need_fraction (ok_need TB c_isfr c_red F_need_fraction)
    have c_low := Cal.of (P := PySem.Challenge.rw_countsalone_k01_fractions_of_any_size.prog) (w := w) (base := base) (gl 9 "lowest" rfl) F_lowest (ok_low TB c_isint c_red F_lowest)
    have c_plus := Cal.of (P := PySem.Challenge.rw_countsalone_k01_fractions_of_any_size.prog) (w := w) (base := base) (gl 10 "plus" rfl) F_plus (ok_plus c_need c_add F_plus)
    have c_minus := Cal.of (P := PySem.Challenge.rw_countsalone_k01_fractions_of_any_size.prog) (w := w) (base := base) (gl 11 "minus" rfl) F_minus (ok_minus c_need c_tak F_minus)
    have c_times := Cal.of (P := PySem.Challenge.rw_countsalone_k01_fractions_of_any_size.prog) (w := w) (base := base) (gl 12 "times" rfl) F_times (ok_times c_need c_mul F_times)
    have c_over := Cal.of (P := PySem.Challenge.rw_countsalone_k01_fractions_of_any_size.prog) (w := w) (base := base) (gl 13 "over" rfl) F_over (ok_over TM c_need c_div F_over)
    have c_ord := Cal.of (P := PySem.Challenge.rw_countsalone_k01_fractions_of_any_size.prog) (w := w) (base := base) (gl 14 "order_of" rfl) F_order_of (ok_ord N c_need c_less F_order_of)
    have Pg : Prog PySem.Challenge.rw_countsalone_k01_fractions_of_any_size.prog w K mg base (He.ga K "BadValue") (He.ga K "Misfit") := ⟨c_low, c_plus, c_minus, c_times, c_over, c_ord⟩
    have c_pen := Cal.of (P := PySem.Challenge.rw_countsalone_k01_fractions_of_any_size.prog) (w := w) (base := base) (gl 15 "_law_pen" rfl) F__law_pen (ok_pen N F__law_pen)
    have c_draw := Cal.of (P := PySem.Challenge.rw_countsalone_k01_fractions_of_any_size.prog) (w := w) (base := base) (gl 16 "_law_draw" rfl) F__law_draw (ok_draw N F__law_draw)
    have c_pick := Cal.of (P := PySem.Challenge.rw_countsalone_k01_fractions_of_any_size.prog) (w := w) (base := base) (gl 17 "_law_pick" rfl) F__law_pick (ok_pick N c_draw F__law_pick)
    have c_great := Cal.of (P := PySem.Challenge.rw_countsalone_k01_fractions_of_any_size.prog) (w := w) (base := base) (gl 18 "_law_great" rfl) F__law_great (ok_great c_draw c_pick F__law_great)
    have c_divs := Cal.of (P := PySem.Challenge.rw_countsalone_k01_fractions_of_any_size.prog) (w := w) (base := base) (gl 19 "_law_divisor" rfl) F__law_divisor (ok_divs N F__law_divisor)
    have c_is := Cal.of (P := PySem.Challenge.rw_countsalone_k01_fractions_of_any_size.prog) (w := w) (base := base) (gl 20 "_law_is" rfl) F__law_is (ok_is N c_divs F__law_is)
    have c_frac := Cal.of (P := PySem.Challenge.rw_countsalone_k01_fractions_of_any_size.prog) (w := w) (base := base) (gl 21 "_law_fraction" rfl) F__law_fraction (ok_frac N c_great F__law_fraction)
    have HD : HeardD K mg := ⟨_, _, gl 22 "_law_heard" rfl, F__law_heard⟩
    have c_right := Cal.of (P := PySem.Challenge.rw_countsalone_k01_fractions_of_any_size.prog) (w := w) (base := base) (gl 23 "_law_right" rfl) F__law_right (ok_right N S HD Pg c_is (T := T) TR (List.mem_cons_self) uR F__law_right (code_of (p := dR) F__law_right))
    have c_ref := Cal.of (P := PySem.Challenge.rw_countsalone_k01_fractions_of_any_size.prog) (w := w) (base := base) (gl 24 "_law_refused" rfl) F__law_refused (ok_refused N S HD Pg c_pick (T := T) TE (List.mem_cons_of_mem _ List.mem_cons_self) uE F__law_refused (code_of (p := dE) F__law_refused))
    exact ok_law N c_pen c_draw c_frac c_right c_ref F_law
end K01

set_option Elab.async false
set_option linter.all false
set_option maxRecDepth 100000
set_option maxHeartbeats 8000000
namespace K01
open PySem PySem.Spec PyProof.Rows L2 DL
theorem cx_none {P : Program} {w : World} (H : Hp) (s : Shared) (e : Value) (s' : Shared) (h : L2.CX P w [] H s (fun _ _ _ => False) e s') : False := by
  obtain ⟨_, _, _, _, _, _, _, _, _, _, _, _, z⟩ := h
  exact z
end K01
open PySem PySem.W PySem.Calls PyProof.Rows
theorem PySem.Challenge.cw_countsalone_k01_fractions_of_any_size_holds : PySem.Challenge.rw_countsalone_k01_fractions_of_any_size.Holds := by
  w_on; o_law
  refine HandSHeadRun.head_imp (r := OpenLaw.row PySem.Challenge.rw_countsalone_k01_fractions_of_any_size) (q := K01.qv) (H := K01.hk) (ob := K01.ob) (M := 2000) (loose := K01.loose) (d := HandSHeadRun.topDef (OpenLaw.row PySem.Challenge.rw_countsalone_k01_fractions_of_any_size).prog 33) (kwd := []) K01.ob_eq
    K01.run (by kernel_rfl) (by kernel_rfl) (by kernel_rfl) (by rfl) (by first | assumption | decide +kernel) (by decide +kernel) ⟨rfl, rfl, rfl, rfl, rfl, by decide +kernel⟩ ?hw ?hc
  case hw => w_witness2
  case hc =>
    refine LamX.walk_ofTsE (l := PySem.Challenge.rw_countsalone_k01_fractions_of_any_size) (n := 63) (k := 8) (x := "script") (CX := fun w => L2.CX PySem.Challenge.rw_countsalone_k01_fractions_of_any_size.prog w) rfl (by decide) (by kernel_rfl) ⟨rfl, by decide, by decide⟩ ?F (fun _ H s e s' z => K01.cx_none H s e s' z)
    intro w mg fa h Y G hmg0
    obtain ⟨K, KX, c⟩ := Y
    have hmg : mg ("law" : PySem.Str) = some (.ref fa) := by
      have e : (HandSHeadRun.topDef (OpenLaw.row PySem.Challenge.rw_countsalone_k01_fractions_of_any_size).prog 33).name = ("law" : PySem.Str) := by kernel_rfl
      rw [← e]
      exact hmg0
    exact ⟨K, KX, K01.facts KX G hmg c⟩
