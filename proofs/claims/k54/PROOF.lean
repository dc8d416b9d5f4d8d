import PyProof.Rows.All
import HandS.Base
import HandS.Call
import HandS.Codes
import HandS.Comp
import HandS.Conv
import HandS.Deep
import HandS.Defaults
import HandS.Dict
import HandS.Ends
import HandS.Evl
import HandS.Exc
import HandS.ExcField
import HandS.ExcInit
import HandS.ExcIs
import HandS.ExcOwn
import HandS.Head0
import HandS.Head1
import HandS.Head2
import HandS.HeadEnd
import HandS.HeadHook1
import HandS.HeadHook2
import HandS.HeadHook3
import HandS.HeadHook4
import HandS.IsInst
import HandS.Iter
import HandS.List
import HandS.More
import HandS.RaiseMore
import HandS.Small
import HandS.Style
import HandS.Text
import HandS.TryMany
import HandS.TryOnly
import HandS.TupAny
import HandS.Walk
import HandS.Words
import HandS.WordsExc
import HandS.WordsList
import KE.IntTextLaws
import KE.KExcSuper
import KE.KFromBytes
import KE.KStateDown
import KE.KSuper
import OpenK.AllK
import PyProof.EqAt
import PyProof.EqKinds
import PyProof.Rows.StrStep
import PyProof.StrOps2
import PyProof.TupleCall
import Wide.All
import Wide.FinOn
import PySem.Challenge.RW_keptmisses_k54_whole_things_as_texts
set_option Elab.async false
set_option linter.all false
set_option maxRecDepth 100000
set_option maxHeartbeats 4000000
/-! what every law's proof here leans on: the head's facts by name, calls, heaps -/
namespace KB
open PySem PySem.Spec PyProof.Rows L2

/-! ### the head's facts, by name -/
def isGlo (x : Str) : He.Fa → Bool
  | .glo y => decide (x = y)
  | _ => false
def isFree (x : Str) : He.Fa → Bool
  | .free y => decide (x = y)
  | _ => false
def isCls (x : Str) : He.Fa → Bool
  | .cls y => decide (x = y)
  | _ => false
def isMkr (x : Str) : He.Fa → Bool
  | .mkr y => decide (x = y)
  | _ => false
def isExc (x : Str) : He.Fa → Bool
  | .exc y => decide (x = y)
  | _ => false
def isNoat (x f : Str) : He.Fa → Bool
  | .noat y g => decide (x = y) && decide (f = g)
  | _ => false
def isMeth (x f : Str) : He.Fa → Bool
  | .meth y g => decide (x = y) && decide (f = g)
  | _ => false
def isInt (x : Str) (i : Int) : He.Fa → Bool
  | .int y j => decide (x = y) && decide (i = j)
  | _ => false
def isStr (x z : Str) : He.Fa → Bool
  | .str y j => decide (x = y) && decide (z = j)
  | _ => false
structure Ctx (fa : List He.Fa) (fn : List He.DefD) (ex : PySem.W.Frag → Bool) (K : PySem.W.Frag) (mg : Str → Option Value) : Prop where
  h : ∃ (h : Heap), K.In h ∧ h.Ns mainGlobals mg
  d : He.SaysD fa fn K
  e : ex K = true
theorem any_of {fa : List He.Fa} {p : He.Fa → Bool} (h : fa.any p = true) : ∃ f ∈ fa, p f = true := by
  simpa using h
section
variable {fa : List He.Fa} {fn : List He.DefD} {ex : PySem.W.Frag → Bool} {K : PySem.W.Frag} {mg : Str → Option Value}
theorem Ctx.glo (S : Ctx fa fn ex K mg) (x : Str) (h : fa.any (isGlo x) = true := by decide +kernel) : mg x = some (.ref (He.ga K x)) := by
  obtain ⟨f, hf, p⟩ := any_of h
  obtain ⟨hp, X, G⟩ := S.h
  cases f <;> simp only [isGlo, Bool.false_eq_true, decide_eq_true_eq] at p
  subst p
  exact He.glo_ok X G (S.d.facts hf)
theorem Ctx.free (S : Ctx fa fn ex K mg) (x : Str) (h : fa.any (isFree x) = true := by decide +kernel) : mg x = none := by
  obtain ⟨f, hf, p⟩ := any_of h
  obtain ⟨hp, X, G⟩ := S.h
  cases f <;> simp only [isFree, Bool.false_eq_true, decide_eq_true_eq] at p
  subst p
  exact He.free_ok X G (S.d.facts hf)
theorem Ctx.cls (S : Ctx fa fn ex K mg) (x : Str) (h : fa.any (isCls x) = true := by decide +kernel) : Cls K (He.ga K x) := by
  obtain ⟨f, hf, p⟩ := any_of h
  cases f <;> simp only [isCls, Bool.false_eq_true, decide_eq_true_eq] at p
  subst p
  exact He.cls_ok (S.d.facts hf)
theorem Ctx.mkr (S : Ctx fa fn ex K mg) (x : Str) (h : fa.any (isMkr x) = true := by decide +kernel) : Mk K (He.ga K x) (He.ma K (He.ga K x) "__init__") := by
  obtain ⟨f, hf, p⟩ := any_of h
  cases f <;> simp only [isMkr, Bool.false_eq_true, decide_eq_true_eq] at p
  subst p
  exact He.mkr_ok (S.d.facts hf)
theorem Ctx.exc (S : Ctx fa fn ex K mg) (x : Str) (h : fa.any (isExc x) = true := by decide +kernel) : PySem.W.excIn K (He.ga K x) He.veBase "ValueError.__new__" = true ∧ PySem.W.keepIn K (.ref (He.ga K x)) = true ∧ PySem.W.subIn K (.ref (He.ga K x)) (.type "BaseException") = some true ∧
    PySem.W.typeIn K (.ref (He.ga K x)) = some (.type "type") := by
  obtain ⟨f, hf, p⟩ := any_of h
  cases f <;> simp only [isExc, Bool.false_eq_true, decide_eq_true_eq] at p
  subst p
  exact He.exc_ok (S.d.facts hf)
theorem Ctx.noat (S : Ctx fa fn ex K mg) (x f : Str) (h : fa.any (isNoat x f) = true := by decide +kernel) : NoAttr K (He.ga K x) f := by
  obtain ⟨f, hf, p⟩ := any_of h
  cases f <;> simp only [isNoat, Bool.false_eq_true, Bool.and_eq_true, decide_eq_true_eq] at p
  obtain ⟨rfl, rfl⟩ := p
  exact He.noat_ok (S.d.facts hf)
theorem Ctx.meth (S : Ctx fa fn ex K mg) (x f : Str) (h : fa.any (isMeth x f) = true := by decide +kernel) : Meth K (He.ga K x) f (He.ma K (He.ga K x) f) := by
  obtain ⟨f, hf, p⟩ := any_of h
  cases f <;> simp only [isMeth, Bool.false_eq_true, Bool.and_eq_true, decide_eq_true_eq] at p
  obtain ⟨rfl, rfl⟩ := p
  exact He.meth_ok (S.d.facts hf)
theorem Ctx.int (S : Ctx fa fn ex K mg) (x : Str) (i : Int) (h : fa.any (isInt x i) = true := by decide +kernel) : ∃ u, mg x = some u ∧ RelV (.int i) u := by
  obtain ⟨f, hf, p⟩ := any_of h
  obtain ⟨hp, X, G⟩ := S.h
  cases f <;> simp only [isInt, Bool.false_eq_true, Bool.and_eq_true, decide_eq_true_eq] at p
  obtain ⟨rfl, rfl⟩ := p
  obtain ⟨t, e⟩ := He.int_ok X G (S.d.facts hf)
  exact ⟨_, e, t, rfl⟩
theorem Ctx.str (S : Ctx fa fn ex K mg) (x z : Str) (h : fa.any (isStr x z) = true := by decide +kernel) : ∃ u, mg x = some u ∧ RelV (.str z) u := by
  obtain ⟨f, hf, p⟩ := any_of h
  obtain ⟨hp, X, G⟩ := S.h
  cases f <;> simp only [isStr, Bool.false_eq_true, Bool.and_eq_true, decide_eq_true_eq] at p
  obtain ⟨rfl, rfl⟩ := p
  obtain ⟨t, e⟩ := He.str_ok X G (S.d.facts hf)
  exact ⟨_, e, t, rfl⟩
end

/-! ### a def that may be called by its name; a method; a class -/
/-- the arguments bind, one for one -/
def BindP (st : Stmt) (ps : List Str) : Prop := ∀ (x q : Str) (kV doc pm : Value) (an : Option Addr) (cdv ct : Value) (us : List Value), us.length = ps.length →
  bindArgs (PySem.W.fnOf x q (defArgs st) (defBody st) (defScope st) .none kV doc pm an cdv ct) ⟨us, []⟩ = pure (ps.zip us)
abbrev FnX (P : Program) (w : World) (K : PySem.W.Frag) (mg : Str → Option Value) (base : Heap) := FnOk P w K mg base (L2.CX P w)
structure Cal (P : Program) (w : World) (K : PySem.W.Frag) (mg : Str → Option Value) (base : Heap) (k : Nat) (x : Str) (sp : Sp) : Prop where
  ex : ∃ (f : Addr) (fd : FuncData) (ps : List Str), FnOk P w K mg base (L2.CX P w) k f fd ps sp ∧ mg x = some (.ref f) ∧ PySem.W.keepIn K (.ref f) = true ∧ Binds K fd ps []
structure Met (P : Program) (w : World) (K : PySem.W.Frag) (mg : Str → Option Value) (base : Heap) (k : Nat) (C : Addr) (m : Str) (sp : Sp) : Prop where
  ex : ∃ (f : Addr) (fd : FuncData) (ps : List Str), Cls K C ∧ Meth K C m f ∧ FnOk P w K mg base (L2.CX P w) k f fd ps sp ∧ Binds K fd ps []
structure Mak (P : Program) (w : World) (K : PySem.W.Frag) (mg : Str → Option Value) (base : Heap) (k : Nat) (x : Str) (C : Addr) (sp : Sp) : Prop where
  ex : ∃ (f : Addr) (fd : FuncData) (ps : List Str), Mk K C f ∧ FnOk P w K mg base (L2.CX P w) k f fd ps sp ∧ mg x = some (.ref C) ∧ Binds K fd ps []
section
variable {P : Program} {w : World} {K : PySem.W.Frag} {mg : Str → Option Value} {base : Heap}
theorem Cal.mono {j k : Nat} {x : Str} {sp : Sp} (c : Cal P w K mg base j x sp) (h : j ≤ k) : Cal P w K mg base k x sp := by
  obtain ⟨f, fd, ps, F, r⟩ := c.ex
  exact ⟨f, fd, ps, F.mono h, r⟩
theorem Cal.imp {k : Nat} {x : Str} {sp sp' : Sp} (c : Cal P w K mg base k x sp) (h : ∀ vs H Q E, sp' vs H Q E → sp vs H Q E) : Cal P w K mg base k x sp' := by
  obtain ⟨f, fd, ps, F, r⟩ := c.ex
  exact ⟨f, fd, ps, F.imp h, r⟩
theorem FunD.bindsP {x qual : Str} {st : Stmt} {f : Addr} {fd : FuncData} {ps : List Str} (F : FunD K x qual (defArgs st) (defBody st) (defScope st) [] [] f fd) (h : BindP st ps) : Binds K fd ps [] := by
  obtain ⟨oc, od, dV, kV, doc, pm, an, cdv, ct, osl, rfl, lk, hcd, hD, hK⟩ := F.ex
  rcases hD with ⟨_, e⟩ | ⟨n, _⟩
  · subst e
    exact .all (h x qual kV doc pm an cdv ct)
  · exact absurd rfl n
/-- what a def's body must show -/
def Body (P : Program) (w : World) (K : PySem.W.Frag) (mg : Str → Option Value) (base : Heap) (k : Nat) (qual : Str) (st : Stmt) (N : List Str) (sp : Sp) : Prop :=
  ∀ (f : Addr) (cdv : Value) (A : Around) (outer : List Env) (s : Shared) (H : Hp) (vs : List V) (Q : VK) (E : XK), Takes (cxOf (L2.CX P w) P w K mg base N qual (defScope st) f cdv A outer s H E) (fun cls d _ H => E cls d H) →
    Passes (L2.CX P w) (cxOf (L2.CX P w) P w K mg base N qual (defScope st) f cdv A outer s H E) E → Room k (A.deeper (envOfC qual (defScope st) s.heap.objs.size f cdv)) → sp vs H Q E →
    ∃ t, PSs (cxOf (L2.CX P w) P w K mg base N qual (defScope st) f cdv A outer s H E) (defBody st) t ∧ t { nx := fun _ H' => Q .non H', rt := Q } (start N vs) H
variable {fa : List He.Fa} {fn : List He.DefD} {ex : PySem.W.Frag → Bool}
theorem cal_of {x : Str} {st : Stmt} {N ps : List Str} {k : Nat} {sp : Sp} (S : Ctx fa fn ex K mg) (hm : (⟨(x, none), x, x, defArgs st, defBody st, defScope st, [], []⟩ : He.DefD) ∈ fn) (hg : fa.any (isGlo x) = true) (sc : FnScope N ps (defScope st)) (hb : BindP st ps)
    (len : ∀ vs H Q E, sp vs H Q E → vs.length = ps.length) (body : Body P w K mg base k x st N sp) : Cal P w K mg base (k + 1) x sp := by
  obtain ⟨fd, F⟩ := S.d.defs hm
  exact ⟨_, fd, ps, F.ok sc len (fun cdv A outer s H vs Q E hr h => body _ cdv A outer s H vs Q E (takes_of rfl rfl rfl rfl) (passes_call (takes_of rfl rfl rfl rfl) (fun _ _ _ _ h => h)) hr h), S.glo x hg, F.kp, FunD.bindsP (st := st) F hb⟩
theorem met_of {C m q : Str} {st : Stmt} {N ps : List Str} {k : Nat} {sp : Sp} (S : Ctx fa fn ex K mg) (hm : (⟨(C, some m), m, q, defArgs st, defBody st, defScope st, [], []⟩ : He.DefD) ∈ fn) (hc : fa.any (isCls C) = true) (hme : fa.any (isMeth C m) = true) (sc : FnScope N ps (defScope st)) (hb : BindP st ps)
    (len : ∀ vs H Q E, sp vs H Q E → vs.length = ps.length) (body : Body P w K mg base k q st N sp) : Met P w K mg base (k + 1) (He.ga K C) m sp := by
  obtain ⟨fd, F⟩ := S.d.defs hm
  exact ⟨_, fd, ps, S.cls C hc, S.meth C m hme, F.ok sc len (fun cdv A outer s H vs Q E hr h => body _ cdv A outer s H vs Q E (takes_of rfl rfl rfl rfl) (passes_call (takes_of rfl rfl rfl rfl) (fun _ _ _ _ h => h)) hr h), FunD.bindsP (st := st) F hb⟩
theorem mak_of {C q : Str} {st : Stmt} {N ps : List Str} {k : Nat} {sp : Sp} (S : Ctx fa fn ex K mg) (hm : (⟨(C, some "__init__"), "__init__", q, defArgs st, defBody st, defScope st, [], []⟩ : He.DefD) ∈ fn) (hg : fa.any (isGlo C) = true) (hme : fa.any (isMkr C) = true) (sc : FnScope N ps (defScope st)) (hb : BindP st ps)
    (len : ∀ vs H Q E, sp vs H Q E → vs.length = ps.length) (body : Body P w K mg base k q st N sp) : Mak P w K mg base (k + 1) C (He.ga K C) sp := by
  obtain ⟨fd, F⟩ := S.d.defs hm
  exact ⟨_, fd, ps, S.mkr C hme, F.ok sc len (fun cdv A outer s H vs Q E hr h => body _ cdv A outer s H vs Q E (takes_of rfl rfl rfl rfl) (passes_call (takes_of rfl rfl rfl rfl) (fun _ _ _ _ h => h)) hr h), S.glo C hg, FunD.bindsP (st := st) F hb⟩
end
section
variable {X : Cx} {k j : Nat} {C : Addr} {x m : Str} {sp : Sp} {p pos apos : Pos} {e o : Expr} {es : List Expr} {ta : TE} {t : TA} {E : XK} {W : WX}
/-- a call whose exceptions are wished for at the slots as they are -/
theorem pe_cS (c : Cal X.prog X.w X.K X.mg X.base k x sp) (hr : Room j X.A) (hk : k ≤ j) (tk : Takes X W) (ha : PA X (e :: es) t) (hg : Gl X x := by rfl)
    (hdb : (x == ("__debug__" : Str)) = false := by decide) (he : starEach (e :: es) X.env = (false, eval e X.env) :: starEach es X.env := by rfl) (hpl : (backTo pos (starEach es X.env)).any (·.1) = false := by rfl) :
    PE X (.Call (.Name x p) (e :: es) [] pos) (tCallS sp (WE W) t) := by
  obtain ⟨f, fd, ps, F, hm, kp, b⟩ := c.ex
  exact pe_callS F (hr.mono hk) hg hm kp b (fun σ => passAt tk σ) ha hdb he hpl
/-- a call of a def that lets nothing out -/
theorem pe_c (c : Cal X.prog X.w X.K X.mg X.base k x sp) (hr : Room j X.A) (hk : k ≤ j) (ha : PA X (e :: es) t) (hg : Gl X x := by rfl)
    (hdb : (x == ("__debug__" : Str)) = false := by decide) (he : starEach (e :: es) X.env = (false, eval e X.env) :: starEach es X.env := by rfl) (hpl : (backTo pos (starEach es X.env)).any (·.1) = false := by rfl) :
    PE X (.Call (.Name x p) (e :: es) [] pos) (tCall sp [] E0 t) := by
  obtain ⟨f, fd, ps, F, hm, kp, b⟩ := c.ex
  exact pe_call F (hr.mono hk) hg hm kp b .nil passL ha hdb he hpl
theorem pe_mt {pl : Sem Bool} (c : Met X.prog X.w X.K X.mg X.base k C m sp) (hr : Room j X.A) (hk : k ≤ j) (hx : Passes (L2.CX X.prog X.w) X E) (he : PE X o ta) (ha : PA X (e :: es) t)
    (hst : starEach (e :: es) X.env = (false, eval e X.env) :: starEach es X.env := by rfl) (hpl : (backTo pos (starEach es X.env)).any (·.1) = false := by rfl)
    (ht : eval (.Call (.Attribute o m apos) (e :: es) [] pos) X.env = (do
      let ov ← eval o X.env
      standAt apos.atName
      let (f, first) ← holding [ov] (getMethod ov m pl)
      callWith pos f first (backTo pos (starEach (e :: es) X.env)) (backToKw pos (keywordEach [] X.env))) := by rfl) :
    PE X (.Call (.Attribute o m apos) (e :: es) [] pos) (tMeth C m sp [] E ta t) := by
  obtain ⟨f, fd, ps, hc, hm, F, b⟩ := c.ex
  exact pe_meth (pl := pl) he hc hm F (hr.mono hk) b .nil hx ha hst hpl ht
theorem pe_mt0 {pl : Sem Bool} (c : Met X.prog X.w X.K X.mg X.base k C m sp) (hr : Room j X.A) (hk : k ≤ j) (hx : Passes (L2.CX X.prog X.w) X E) (he : PE X o ta)
    (ht : eval (.Call (.Attribute o m apos) [] [] pos) X.env = (do
      let ov ← eval o X.env
      standAt apos.atName
      let (f, first) ← holding [ov] (getMethod ov m pl)
      callWith pos f first (backTo pos (starEach [] X.env)) (backToKw pos (keywordEach [] X.env))) := by rfl) :
    PE X (.Call (.Attribute o m apos) [] [] pos) (tMeth C m sp [] E ta tNil) := by
  obtain ⟨f, fd, ps, hc, hm, F, b⟩ := c.ex
  exact pe_meth0 (pl := pl) he hc hm F (hr.mono hk) b .nil hx ht
theorem pe_mk (c : Mak X.prog X.w X.K X.mg X.base k x C sp) (hr : Room j X.A) (hk : k + 1 ≤ j) (hx : Passes (L2.CX X.prog X.w) X E) (ha : PA X (e :: es) t) (hg : Gl X x := by rfl)
    (hdb : (x == ("__debug__" : Str)) = false := by decide) (he : starEach (e :: es) X.env = (false, eval e X.env) :: starEach es X.env := by rfl) (hpl : (backTo pos (starEach es X.env)).any (·.1) = false := by rfl) :
    PE X (.Call (.Name x p) (e :: es) [] pos) (tMake C sp [] E t) := by
  obtain ⟨f, fd, ps, M, F, hm, b⟩ := c.ex
  exact pe_make M F (hr.mono hk) hg hm b .nil hx ha hdb he hpl
theorem pe_k {v : V} (hg : Gl X x) (h : ∃ u, X.mg x = some u ∧ RelV v u) (hd : (x == ("__debug__" : Str)) = false := by decide) : PE X (.Name x pos) (tC v) := by
  obtain ⟨u, a, b⟩ := h
  exact pe_glob hg a b hd
end
end KB
namespace KB
open PySem PySem.Spec PyProof.Rows L2
/-! ### kinds of values -/
inductive Kd where
  | non | bl | int | str | lst | tup | dic
  deriving DecidableEq
def Kd.ty : Kd → String
  | .non => "NoneType"
  | .bl => "bool"
  | .int => "int"
  | .str => "str"
  | .lst => "list"
  | .tup => "tuple"
  | .dic => "dict"
def IsK (K : PySem.W.Frag) (H : Hp) (v : V) (k : Kd) : Prop := TyX K H v (.type k.ty)
def isT : Kd → Kd → Bool
  | .bl, .int => true
  | a, b => decide (a = b)
theorem kit_isT (a b : Kd) (h : b ≠ .non) : kitB a.ty b.ty = some (isT a b) := by
  cases b with
  | non => exact absurd rfl h
  | _ => cases a <;> decide +kernel
theorem isi {K : PySem.W.Frag} {H : Hp} {v : V} {a : Kd} (b : Kd) {T : String} {Q : VK} (h : IsK K H v a) (q : Q (.bl (isT a b)) H) (e : T = b.ty := by rfl) (hb : b ≠ .non := by decide) : rIsi K [v, .ty T] H Q := by
  subst e
  exact ⟨v, .ty _, _, _, _, rfl, .ty _, h, kit_ty (kit_isT a b hb), q⟩
theorem cxK {CX : CXT} {P : Program} {w : World} {K : PySem.W.Frag} {mg : Str → Option Value} {base : Heap} {N : List Str} {q : Str} {sc : Scope} {f : Addr} {cd : Value} {A : Around} {outer : List Env} {s : Shared} {H : Hp} {E : XK} :
    (cxOf CX P w K mg base N q sc f cd A outer s H E).K = K := rfl
section
variable {X : Cx}
theorem pe_ty {x : Str} {pos : Pos} (T : String) (hg : Gl X x) (hm : X.mg x = none) (hv : bootBuiltins x = some (.type T)) (hn : x ≠ "__name__" := by decide) (hd : (x == ("__debug__" : Str)) = false := by decide) : PE X (.Name x pos) (tC (.ty T)) := pe_bltn hg hm hv rfl hn hd
end
theorem Ctx.gl {fa : List He.Fa} {fn : List He.DefD} {ex : PySem.W.Frag → Bool} {K : PySem.W.Frag} {mg : Str → Option Value} (S : Ctx fa fn ex K mg) (x : Str) (h : fa.any (isGlo x) = true := by decide +kernel) : ∃ u, mg x = some u ∧ RelV (.ref (He.ga K x)) u := ⟨_, S.glo x h, rfl⟩
end KB
namespace KB
open PySem PySem.Spec PyProof.Rows L2
open SX (S)
/-! ### readings, step by step -/
section
variable {K : PySem.W.Frag} {σ : L2.St} {H : Hp} {D : Ends} {Q : VK} {Qb : Bool → Hp → Prop} {QA : List V → Hp → Prop} {QO : Option Int → Hp → Prop} {QG : L2.St → Hp → Prop} {R : It → Hp → Prop} {i j : Nat} {v x y z : V} {ta tb tc te : TE} {t u : TT} {t1 t2 : TS} {g : TG} {gs : TGs} {tA tr : TA} {r r' : R2} {E : XK} {ES : L2.St → XK} {sp : Sp} {f m : Str} {C : Addr}
theorem r_seq (q : t1 { D with nx := t2 D } σ H) : tSeq t1 t2 D σ H := q
theorem r_set (q : te σ H fun v H1 => D.nx (σ.set i (some v)) H1) : tAsg te (gName i) D σ H := q
theorem r_asg (q : te σ H fun x H1 => g x σ H1 D.nx) : tAsg te g D σ H := q
theorem r_drop (q : te σ H fun _ H1 => D.nx σ H1) : tDrop te D σ H := q
theorem r_ret (q : te σ H D.rt) : tRet te D σ H := q
theorem r_retN (q : D.rt .non H) : tRetN D σ H := q
theorem r_if (q : t σ H fun b H1 => if b = true then t1 D σ H1 else t2 D σ H1) : tIfS t t1 t2 D σ H := q
theorem r_next (q : D.nx σ H) : tNext D σ H := q
theorem r_brk (q : D.bk σ H) : tBreak D σ H := q
theorem r_ct (q : D.ct σ H) : tCont D σ H := q
theorem r_var (h : σ[i]? = some (some v)) (q : Q v H) : tVar i σ H Q := ⟨v, h, q⟩
theorem r_c (q : Q v H) : tC v σ H Q := q
theorem r_op (q : ta σ H fun x H1 => tb σ H1 fun y H2 => r x y H2 Q) : tOp r ta tb σ H Q := q
theorem r_un {r : V → Hp → VK → Prop} (q : ta σ H fun x H1 => r x H1 Q) : tUn r ta σ H Q := q
theorem r_cb {r : List V → Hp → VK → Prop} (q : tA σ H fun vs H1 => r vs H1 Q) : tCB r tA σ H Q := q
theorem r_nil (q : QA [] H) : tNil σ H QA := q
theorem r_cons (q : ta σ H fun x H1 => tr σ H1 fun xs H2 => QA (x :: xs) H2) : tCons ta tr σ H QA := q
theorem r_tup (q : tA σ H fun xs H1 => xs.length ≤ sizeLine ∧ ∀ p, H1 p = none → Q (.ref p) (upd H1 p (.tup xs))) : tTup tA σ H Q := q
theorem r_lst (q : tA σ H fun xs H1 => xs.length ≤ sizeLine ∧ ∀ p, H1 p = none → Q (.ref p) (upd H1 p (.lst xs))) : tLst tA σ H Q := q
theorem r_andV (q : ta σ H fun x H1 => ∃ c, x = .bl c ∧ if c = true then tb σ H1 Q else Q (.bl false) H1) : tAndV ta tb σ H Q := q
theorem r_orV (q : ta σ H fun x H1 => ∃ c, x = .bl c ∧ if c = true then Q (.bl true) H1 else tb σ H1 Q) : tOrV ta tb σ H Q := q
theorem r_notV (q : ta σ H fun x H1 => ∃ c, x = .bl c ∧ Q (.bl (!c)) H1) : tNotV ta σ H Q := q
theorem r_ifE (q : t σ H fun c H1 => if c = true then ta σ H1 Q else tb σ H1 Q) : tIf t ta tb σ H Q := q
theorem r_call (q : tA σ H fun vs H1 => sp (vs ++ []) H1 Q E) : tCall sp [] E tA σ H Q := q
theorem r_callS (q : tA σ H fun vs H1 => sp vs H1 Q (ES σ)) : tCallS sp ES tA σ H Q := q
theorem r_meth (q : ta σ H fun x H1 => ∃ a dx fs, x = .ref a ∧ H1 a = some (.ins C dx fs) ∧ fs.lookup m = none ∧ tA σ H1 fun vs H2 => sp (x :: (vs ++ [])) H2 Q E) : tMeth C m sp [] E ta tA σ H Q := q
theorem r_make (q : tA σ H fun vs H1 => ∀ x dx, H1 x = none → H1 dx = none → dx ≠ x → sp (.ref x :: (vs ++ [])) (upd (upd H1 dx (.own x)) x (.ins C dx [])) (fun v H2 => v = .non ∧ Q (.ref x) H2) E) : tMake C sp [] E tA σ H Q := q
theorem r_fld (q : ta σ H fun x H1 => ∃ a C dx fs v, x = .ref a ∧ H1 a = some (.ins C dx fs) ∧ Cls K C ∧ NoAttr K C f ∧ fs.lookup f = some v ∧ Q v H1) : tFld K ta f σ H Q := q
theorem r_sl {r : V → Option Int → Option Int → Hp → VK → Prop} {tl th : TO} (q : te σ H fun x H1 => tl σ H1 fun l H2 => th σ H2 fun u H3 => r x l u H3 Q) : tSl r te tl th σ H Q := q
theorem r_nop (q : QO none H) : tNoPart σ H QO := q
theorem r_part (q : te σ H fun x H1 => ∃ i, x = .int i ∧ QO (some i) H1) : tPart te σ H QO := q
theorem r_test (q : te σ H fun x H' => ∃ k, x = .bl k ∧ Qb k H') : tTest te σ H Qb := q
theorem r_B (q : te σ H fun x H1 => ∃ c, x = .bl c ∧ Qb c H1) : tB te σ H Qb := q
theorem r_and (q : t σ H fun c H1 => if c = true then u σ H1 Qb else Qb false H1) : tAnd t u σ H Qb := q
theorem r_or (q : t σ H fun c H1 => if c = true then Qb true H1 else u σ H1 Qb) : tOr t u σ H Qb := q
theorem r_not (q : t σ H fun c H1 => Qb (!c) H1) : tNot t σ H Qb := q
theorem r_chain (q : ta σ H fun x H1 => tb σ H1 fun y H2 => r x y H2 fun z H3 => ∃ k, z = .bl k ∧ (if k = true then tc σ H3 fun w' H4 => r' y w' H4 Q else Q (.bl false) H3)) : tChain r r' ta tb tc σ H Q := q
theorem r_bm0 {T : String} {r : V → List V → Hp → VK → Prop} (q : ta σ H fun x H1 => tyV K T x H1 ∧ r x [] H1 Q) : tBM0 K T r ta σ H Q := q
theorem r_bm {T : String} {r : V → List V → Hp → VK → Prop} (q : ta σ H fun x H1 => tyV K T x H1 ∧ tA σ H1 fun xs H2 => r x xs H2 Q) : tBM K T r ta tA σ H Q := q
theorem r_m1 {r : V → List V → Hp → VK → Prop} (q : ta σ H fun x H1 => (∃ a, x = .str a) ∧ te σ H1 fun y H2 => r x [y] H2 Q) : tM1 r ta te σ H Q := q
theorem r_gname (q : QG (σ.set i (some v)) H) : gName i v σ H QG := q
theorem r_gnil (q : QG σ H) : gNil [] σ H QG := ⟨rfl, q⟩
theorem r_gcons {vs : List V} (q : g v σ H fun σ' H' => gs vs σ' H' QG) : gCons g gs (v :: vs) σ H QG := ⟨v, vs, rfl, q⟩
theorem r_gtup {n : Nat} {a : Addr} {xs : List V} (h : SqT K H a xs) (hn : xs.length = n) (q : gs xs σ H QG) : gTup K n gs (.ref a) σ H QG := ⟨a, xs, rfl, h, hn, q⟩
theorem r_gsub {to ti : TE} {ts : TSet} (q : to σ H fun o H1 => ti σ H1 fun i H2 => ts o i v H2 fun H3 => QG σ H3) : gSub to ti ts v σ H QG := q
theorem r_sfld {tv : TE} (q : tv σ H fun y H1 => ta σ H1 fun x H2 => ∃ a C dx fs, x = .ref a ∧ H2 a = some (.ins C dx fs) ∧ Cls K C ∧ NoAttr K C f ∧ fs.length < 1000 ∧ D.nx σ (upd H2 a (.ins C dx (putF f y fs)))) : sFld K ta tv f D σ H := q
theorem r_faug {tv : TE} {rd : V → V → Hp → VK → Prop} (q : ta σ H fun x H1 => ∃ a C dx fs v, x = .ref a ∧ H1 a = some (.ins C dx fs) ∧ Cls K C ∧ NoAttr K C f ∧ fs.lookup f = some v ∧
  tv σ H1 fun y H2 => rd v y H2 fun z H3 => ∃ dx' fs', H3 a = some (.ins C dx' fs') ∧ fs'.length < 1000 ∧ D.nx σ (upd H3 a (.ins C dx' (putF f z fs')))) : sFldAug K ta tv rd f D σ H := q
theorem r_ilist (q : te σ H fun x H1 => ∃ a, x = .ref a ∧ (∃ xs, SqL K H1 a xs) ∧ R (Itl K a) H1) : iList K te σ H R := q
theorem r_itup (q : te σ H fun x H1 => ∃ a, x = .ref a ∧ (∃ xs, SqT K H1 a xs) ∧ R (Itt K a) H1) : iTup K te σ H R := q
theorem r_irng1 (q : tA σ H fun vs H1 => ∃ j : Int, vs = [.int j] ∧ -(2 ^ 62) ≤ j ∧ j < 2 ^ 62 ∧ R (Itr 0 j.toNat) H1) : iRng1 tA σ H R := q
theorem r_bl {k : Bool} (q : Qb k H) : ∃ c, V.bl k = .bl c ∧ Qb c H := ⟨k, rfl, q⟩
theorem r_blV {k : Bool} {P : Bool → Prop} (q : P k) : ∃ c, V.bl k = .bl c ∧ P c := ⟨k, rfl, q⟩
theorem r_intV {k : Int} {P : Int → Prop} (q : P k) : ∃ c, V.int k = .int c ∧ P c := ⟨k, rfl, q⟩
theorem r_I0 {g : Int → Int → V} {a b : Int} (q : Q (g a b) H) : rI0 g (.int a) (.int b) H Q := ⟨a, b, rfl, rfl, q⟩
theorem r_I {c : Int → Int → Prop} {g : Int → Int → V} {a b : Int} (h : c a b) (q : Q (g a b) H) : rI c g (.int a) (.int b) H Q := ⟨a, b, rfl, rfl, h, q⟩
theorem r_U {g : Int → V} {a : Int} (q : Q (g a) H) : rU g (.int a) H Q := ⟨a, rfl, q⟩
theorem r_eq (q : Q (.bl (decide (x = y))) H) (h : scal x y = true := by rfl) : rEq x y H Q := ⟨h, q⟩
theorem r_ne (q : Q (.bl (!decide (x = y))) H) (h : scal x y = true := by rfl) : rNe x y H Q := ⟨h, q⟩
theorem r_rAdd {a b : Int} (q : Q (.int (a + b)) H) : rAdd (.int a) (.int b) H Q := ⟨a, b, rfl, rfl, q⟩
theorem r_rSub {a b : Int} (q : Q (.int (a - b)) H) : rSub (.int a) (.int b) H Q := ⟨a, b, rfl, rfl, q⟩
end
/-! ### the operators' readings, named -/
def rAddS : R2 := fun x y H Q => ∃ i j, x = .str i ∧ y = .str j ∧ i.length + j.length ≤ sizeLine ∧ Q (.str (i ++ j)) H
def rLeS : R2 := fun x y H Q => ∃ i j, x = .str i ∧ y = .str j ∧ Q (.bl (!decide (j.cps.toList < i.cps.toList))) H
def rIsN : R2 := fun x y H Q => y = .non ∧ Q (.bl (decide (x = .non))) H
def rIsnN : R2 := fun x y H Q => y = .non ∧ Q (.bl (!decide (x = .non))) H
def rAbs : List V → Hp → VK → Prop := fun xs H Q => ∃ i, xs = [.int i] ∧ Q (.int (if i < 0 then -i else i)) H
def rInt1 : List V → Hp → VK → Prop := fun xs H Q => (∃ i, xs = [.int i] ∧ Q (.int i) H) ∨ ∃ k, xs = [.bl k] ∧ Q (.int (if k then 1 else 0)) H
def rLenSq (K : PySem.W.Frag) : List V → Hp → VK → Prop := fun xs H Q => ∃ p ys, xs = [.ref p] ∧ (SqL K H p ys ∨ SqT K H p ys) ∧ Q (.int ys.length) H
def rLenS : List V → Hp → VK → Prop := fun xs H Q => ∃ z, xs = [.str z] ∧ z.length ≤ sizeLine ∧ Q (.int z.length) H
def rInSg : R2 := fun x y H Q => ∃ (c : Nat) (z : Str), x = .str ⟨#[c]⟩ ∧ y = .str z ∧ Q (.bl (decide (c ∈ z.cps.toList))) H
def rNotInSg : R2 := fun x y H Q => ∃ (c : Nat) (z : Str), x = .str ⟨#[c]⟩ ∧ y = .str z ∧ Q (.bl (!decide (c ∈ z.cps.toList))) H
def rIntS : List V → Hp → VK → Prop := fun xs H Q => ∃ a n, xs = [.str a] ∧ PySem.intText? a = some n ∧ a.length ≤ 640 ∧ Q (.int n) H
def rTupOf (K : PySem.W.Frag) : List V → Hp → VK → Prop := fun xs H Q => ∃ p ys, xs = [.ref p] ∧ ((SqL K H p ys ∧ ∀ l, H l = none → Q (.ref l) (upd H l (.tup ys))) ∨ (SqT K H p ys ∧ Q (.ref p) H))
def rListOf (K : PySem.W.Frag) : List V → Hp → VK → Prop := fun xs H Q => ∃ p ys, xs = [.ref p] ∧ (SqL K H p ys ∨ SqT K H p ys) ∧ ∀ l, H l = none → Q (.ref l) (upd H l (.lst ys))
def rJoin (K : PySem.W.Frag) : V → List V → Hp → VK → Prop := fun x xs H Q => ∃ a p, ∃ ys : List Str, x = .str a ∧ xs = [.ref p] ∧ (SqL K H p (ys.map V.str) ∨ SqT K H p (ys.map V.str)) ∧ (ys.map (·.length)).sum + ys.length * a.length ≤ 16777216 ∧ Q (.str (Txt.join a ys)) H
section
variable {X : Cx}
theorem op_addS : OpR X (binaryOp .Add) rAddS := op_add_str
theorem op_leS : OpR X (compareOp .LtE) rLeS := op_le_str
theorem op_isNn : OpR X (compareOp .Is) rIsN := op_isN
theorem op_isnNn : OpR X (compareOp .IsNot) rIsnN := op_notN
theorem call_absI : CallR X (.builtin "abs") rAbs := call_abs
theorem call_intI : CallR X (.type "int") rInt1 := call_int1
theorem call_lenSq : CallR X (.builtin "len") (rLenSq X.K) := call_len_seq
theorem call_lenS : CallR X (.builtin "len") rLenS := call_len_str
theorem op_inSg : OpR X (compareOp .In) rInSg := op_in_sign
theorem op_notInSg : OpR X (compareOp .NotIn) rNotInSg := op_notIn_sign
theorem call_intS : CallR X (.type "int") rIntS := call_int_str
theorem call_tupOf : CallR X (.type "tuple") (rTupOf X.K) := call_tuple_of
theorem call_listOf : CallR X (.type "list") (rListOf X.K) := call_list_of
theorem pe_joinS {o e : Expr} {to te : TE} {apos pos : Pos} (ho : PE X o to) (he : PE X e te) (hs : starEach [e] X.env = [(false, eval e X.env)] := by rfl) (hbase : attributeBase o "join" X.env (eval o X.env) = eval o X.env := by rfl) (hline : (apos.endLine == pos.line) = true := by rfl) :
    PE X (.Call (.Attribute o "join" apos) [e] [] pos) (tM1 (rJoin X.K) to te) := pe_join ho he hs hbase hline
end
section
variable {K : PySem.W.Frag} {H : Hp} {Q : VK} {x y z v : V}
theorem len1M {n : Nat} (h : n ≤ 1000000) : n ≤ sizeLine := Nat.le_trans h (by decide)
theorem lt1M {n : Nat} (h : n ≤ 1000000) : n < sizeLine := Nat.lt_of_le_of_lt h (by decide)
theorem r_addS {a b : List Nat} (h : a.length + b.length ≤ 1000000) (q : Q (.str (S (a ++ b))) H) : rAddS (.str (S a)) (.str (S b)) H Q :=
  ⟨S a, S b, rfl, rfl, by rw [SX.S_len, SX.S_len]; exact len1M h, by rw [SX.S_cat]; exact q⟩
theorem r_leS {a b : List Nat} (q : Q (.bl (!decide (b < a))) H) : rLeS (.str (S a)) (.str (S b)) H Q := ⟨S a, S b, rfl, rfl, q⟩
theorem r_isN (q : Q (.bl (decide (x = .non))) H) : rIsN x .non H Q := ⟨rfl, q⟩
theorem r_isnN (q : Q (.bl (!decide (x = .non))) H) : rIsnN x .non H Q := ⟨rfl, q⟩
theorem r_abs {i : Int} (q : Q (.int (if i < 0 then -i else i)) H) : rAbs [.int i] H Q := ⟨i, rfl, q⟩
theorem r_int1 {i : Int} (q : Q (.int i) H) : rInt1 [.int i] H Q := .inl ⟨i, rfl, q⟩
theorem r_lenL {p : Addr} {ys : List V} (h : SqL K H p ys) (q : Q (.int ys.length) H) : rLenSq K [.ref p] H Q := ⟨p, ys, rfl, .inl h, q⟩
theorem r_lenT {p : Addr} {ys : List V} (h : SqT K H p ys) (q : Q (.int ys.length) H) : rLenSq K [.ref p] H Q := ⟨p, ys, rfl, .inr h, q⟩
theorem r_lenS {a : List Nat} (h : a.length ≤ 1000000) (q : Q (.int a.length) H) : rLenS [.str (S a)] H Q := ⟨S a, rfl, by rw [SX.S_len]; exact len1M h, by rw [SX.S_len]; exact q⟩
theorem r_inSg {c : Nat} {l : List Nat} (q : Q (.bl (decide (c ∈ l))) H) : rInSg (.str (S [c])) (.str (S l)) H Q := ⟨c, S l, rfl, rfl, q⟩
theorem r_notInSg {c : Nat} {l : List Nat} (q : Q (.bl (!decide (c ∈ l))) H) : rNotInSg (.str (S [c])) (.str (S l)) H Q := ⟨c, S l, rfl, rfl, q⟩
theorem r_intS {a : List Nat} {n : Int} (h : PySem.intText? (S a) = some n) (hl : a.length ≤ 640) (q : Q (.int n) H) : rIntS [.str (S a)] H Q := ⟨S a, n, rfl, h, by rw [SX.S_len]; exact hl, q⟩
theorem r_ixL {p : Addr} {xs : List V} {i : Int} (h : SqL K H p xs) (ha : atI xs i = some v) (q : Q v H) : rIxL K (.ref p) (.int i) H Q := ⟨p, xs, i, v, rfl, rfl, h, ha, q⟩
theorem r_ixT {p : Addr} {xs : List V} {i : Int} (h : SqT K H p xs) (ha : atI xs i = some v) (q : Q v H) : rIxT K (.ref p) (.int i) H Q := ⟨p, xs, i, v, rfl, rfl, h, ha, q⟩
theorem r_ixS {a : List Nat} {i : Int} {c : Nat} (hl : a.length ≤ 1000000) (ha : atI a i = some c) (q : Q (.str (S [c])) H) : rIxS (.str (S a)) (.int i) H Q := ⟨S a, i, c, rfl, rfl, by rw [SX.S_len]; exact len1M hl, ha, q⟩
theorem r_tupOfL {p : Addr} {ys : List V} (h : SqL K H p ys) (q : ∀ l, H l = none → Q (.ref l) (upd H l (.tup ys))) : rTupOf K [.ref p] H Q := ⟨p, ys, rfl, .inl ⟨h, q⟩⟩
theorem r_join {a : List Nat} {p : Addr} {ys : List (List Nat)} (h : SqL K H p (ys.map fun l => V.str (S l))) (hl : (ys.map (·.length)).sum + ys.length * a.length ≤ 1000000) (q : Q (.str (S (TL.joinL a ys))) H) : rJoin K (.str (S a)) [.ref p] H Q :=
  ⟨S a, p, ys.map S, rfl, rfl, .inl (by rw [List.map_map]; exact h), by rw [SX.lens, List.length_map, SX.S_len]; omega, by rw [SX.join_S]; exact q⟩
end
/-! ### heaps that have grown -/
abbrev Ex := Evl.Ex
theorem Ex.at {H H' : Hp} (e : Ex H H') {a : Addr} {o : HO} (h : H a = some o) : H' a = some o := e a o h
section
variable {X : Cx}
/-- a written text, by its codes -/
theorem pe_sl (l : List Nat) {x : Str} {j : Nat} {pos : Pos} (h : x = S l := by rfl) : PE X (.Constant (.str x) j pos) (tC (.str (S l))) := by
  subst h
  exact pe_str
theorem pe_ks {x z : Str} {pos : Pos} (hg : Gl X x) (h : ∃ u, X.mg x = some u ∧ RelV (.str z) u) (l : List Nat) (e : z = S l := by rfl) (hd : (x == ("__debug__" : Str)) = false := by decide) : PE X (.Name x pos) (tC (.str (S l))) := by
  subst e
  exact pe_k hg h hd
end
/-! ### what a draw leaves -/
/-- all but what stands at a is as it was -/
def Xe1 (a : Addr) (H H' : Hp) : Prop := ∀ b o, b ≠ a → H b = some o → H' b = some o
theorem Xe1.refl {a : Addr} {H : Hp} : Xe1 a H H := fun _ _ _ h => h
theorem Xe1.trans {a : Addr} {H H1 H2 : Hp} (e : Xe1 a H H1) (e2 : Xe1 a H1 H2) : Xe1 a H H2 := fun b o n h => e2 b o n (e b o n h)
theorem Ex.xe {a : Addr} {H H' : Hp} (e : Ex H H') : Xe1 a H H' := fun b o _ h => e b o h
/-- the hand at a, its numbers at c -/
structure HC (H : Hp) (a c : Addr) (ns : List Int) (xs : List V) : Prop where
  at_ : H a = some (.lst xs)
  ne : c ≠ a
  cells : H c = some (.lst (ns.map V.int))
def Hand (H : Hp) (a c : Addr) (ns : List Int) : Prop := ∃ (x1 x2 x3 x4 : Int), HC H a c ns [.ref c, .int x1, .int x2, .int x3, .int x4] ∧ 0 ≤ x1
structure Dr (H : Hp) (a c : Addr) (ns : List Int) (H' : Hp) : Prop where
  xe : Xe1 a H H'
  hand : Hand H' a c ns
theorem Dr.refl {H : Hp} {a c : Addr} {ns : List Int} (h : Hand H a c ns) : Dr H a c ns H := ⟨Xe1.refl, h⟩
theorem Dr.trans {H H1 H2 : Hp} {a c : Addr} {ns : List Int} (x : Dr H a c ns H1) (y : Dr H1 a c ns H2) : Dr H a c ns H2 := ⟨x.xe.trans y.xe, y.hand⟩
theorem Hand.lst {H : Hp} {a c : Addr} {ns : List Int} (h : Hand H a c ns) : ∃ xs, H a = some (.lst xs) := by
  obtain ⟨_, _, _, _, h, _⟩ := h
  exact ⟨_, h.at_⟩
theorem Hand.neA {H : Hp} {a c D : Addr} {ns : List Int} (h : Hand H a c ns) (hD : H D = none) : D ≠ a := by
  obtain ⟨_, _, _, _, h, _⟩ := h
  exact (ne_of_none h.at_ hD).symm
theorem Hand.neC {H : Hp} {a c D : Addr} {ns : List Int} (h : Hand H a c ns) (hD : H D = none) : D ≠ c := by
  obtain ⟨_, _, _, _, h, _⟩ := h
  exact (ne_of_none h.cells hD).symm
/-- an object that is not the hand's is changed or made -/
theorem Hand.upd {H : Hp} {a c D : Addr} {ns : List Int} {o : HO} (h : Hand H a c ns) (n1 : D ≠ a) (n2 : D ≠ c) : Hand (upd H D o) a c ns := by
  obtain ⟨x1, x2, x3, x4, h, p⟩ := h
  exact ⟨x1, x2, x3, x4, ⟨by rw [upd_ne n1.symm]; exact h.at_, h.ne, by rw [upd_ne n2.symm]; exact h.cells⟩, p⟩
theorem Hand.ex {H H' : Hp} {a c : Addr} {ns : List Int} (h : Hand H a c ns) (e : Ex H H') : Hand H' a c ns := by
  obtain ⟨x1, x2, x3, x4, h, p⟩ := h
  exact ⟨x1, x2, x3, x4, ⟨e _ _ h.at_, h.ne, e _ _ h.cells⟩, p⟩
theorem Dr.ex {H H' : Hp} {a c : Addr} {ns : List Int} (h : Hand H a c ns) (e : Ex H H') : Dr H a c ns H' := ⟨e.xe, h.ex e⟩
theorem Dr.at {H H' : Hp} {a c b : Addr} {ns : List Int} {o : HO} (x : Dr H a c ns H') (h : H b = some o) (n : b ≠ a) : H' b = some o := x.xe b o n h
/-- a thing made beside, filled -/
theorem Dr.own {H H' : Hp} {a c D : Addr} {ns : List Int} {o : HO} (x : Dr H a c ns H') (h : Hand H a c ns) (hD : H D = none) : Dr H a c ns (L2.upd H' D o) :=
  ⟨fun b u n e => by rw [upd_ne (ne_of_none e hD)]; exact x.xe b u n e, x.hand.upd (h.neA hD) (h.neC hD)⟩
theorem r_setH {H : Hp} {a c : Addr} {ns : List Int} {xs : List V} {k : Int} {j : Nat} {v : V} {Q : Hp → Prop} (h : HC H a c ns xs) (hj : ixN xs.length k = some j) (q : ∀ H', HC H' a c ns (xs.set j v) → Xe1 a H H' → Q H') : rSetL (.ref a) (.int k) v H Q :=
  ⟨a, xs, k, j, rfl, rfl, h.at_, hj, q _ ⟨upd_same, h.ne, by rw [upd_ne h.ne]; exact h.cells⟩ fun b o n e => by rw [upd_ne n]; exact e⟩
theorem atI_lt {α : Type} {xs : List α} {i : Int} (h0 : 0 ≤ i) (h1 : i < xs.length) : ∃ v, atI xs i = some v ∧ v ∈ xs := by
  obtain ⟨j, rfl⟩ : ∃ j : Nat, i = j := ⟨i.toNat, by omega⟩
  have hj : j < xs.length := by omega
  exact ⟨xs[j], atI_nat (List.getElem?_eq_getElem hj), List.getElem_mem hj⟩
theorem atI_ints {ns : List Int} {i : Int} (h0 : 0 ≤ i) (h1 : i < (ns.map V.int).length) : ∃ z, atI (ns.map V.int) i = some (.int z) := by
  obtain ⟨v, e, hv⟩ := atI_lt h0 h1
  obtain ⟨z, _, rfl⟩ := List.mem_map.mp hv
  exact ⟨z, e⟩
def rLenV (K : PySem.W.Frag) : List V → Hp → VK → Prop := fun xs H Q => ∃ x n, xs = [x] ∧ LenV K x H n ∧ Q (.int n) H
theorem call_lenV {X : Cx} : CallR X (.builtin "len") (rLenV X.K) := call_len
/-- a new list, a new tuple, made; the heap has grown -/
theorem r_new {Q : VK} {H : Hp} {o : HO} (q : ∀ p H', H p = none → Ex H H' → H' p = some o → Q (.ref p) H') : ∀ p, H p = none → Q (.ref p) (upd H p o) := fun p hp => q p _ hp (Evl.Ex.new hp) upd_same
/-! ### loops and comprehensions over a walk -/
def LcB (J : It) (g : TG) (tt : TT) (te : TE) (vs : List Nat) (σ : L2.St) (D : Addr) (H1 : Hp) (Qd : Hp → Prop) : Prop := ∃ W : Nat → Nat → Hp → Prop, (∃ m, W 0 m (upd H1 D (.lst []))) ∧ ∀ i m H, W i m H →
  (J.stop i H ∧ Qd H) ∨ (J.go i H ∧ ∃ Nx : Hp → Prop, (∀ H', Nx H' → ∃ m', m' < m ∧ W (i + 1) m' H') ∧ ∀ x H', J.yld i H x H' → g x (wipe σ vs) H' fun σ2 H2 => wipe σ2 vs = wipe σ vs ∧ tt σ2 H2 fun b H3 =>
    if b = true then te σ2 H3 fun y H4 => ∃ acc, H4 D = some (.lst acc) ∧ acc.length < sizeLine ∧ Nx (upd H4 D (.lst (acc ++ [y]))) else Nx H3)
def ForB (J : It) (g : TG) (tb : TS) (D : Ends) (σ : L2.St) (H : Hp) : Prop := ∃ W : Nat → Nat → L2.St → Hp → Prop, (∃ m, W 0 m σ H) ∧ ∀ i m σ H, W i m σ H →
  (J.stop i H ∧ D.nx σ H) ∨ (J.go i H ∧ ∃ N : L2.St → Hp → Prop, (∀ σ' H', N σ' H' → ∃ m', m' < m ∧ W (i + 1) m' σ' H') ∧ ∀ x H', J.yld i H x H' → g x σ H' fun σ2 H2 => tb { D with nx := N, ct := N, bk := D.nx } σ2 H2)
section
variable {K : PySem.W.Frag} {σ : L2.St} {H H1 : Hp} {D : Ends} {Q : VK} {wi : TI} {g : TG} {tt : TT} {te : TE} {tb : TS} {vs : List Nat} {J : It} {n j : Nat} {G : Hp → Prop} {Y : Nat → Hp → V → Hp → Prop} {Qd : Hp → Prop} {R : It → Hp → Prop}
theorem r_lc (q : wi σ H fun J H1 => ∀ D, H1 D = none → LcB J g tt te vs σ D H1 (fun H => Q (.ref D) H)) : tLc wi g tt te vs σ H Q := q
theorem r_for (q : wi σ H fun J H1 => ForB J g tb D σ H1) : tFor wi g tb D σ H := q
theorem r_istr (q : te σ H fun v H1 => ∃ x, v = .str x ∧ R (Its x) H1) : iStr te σ H R := q
def LcN (Dl : Addr) (P : Nat → List V → Hp → Prop) (i : Nat) (y : V) (H4 : Hp) : Prop :=
  ∃ acc, H4 Dl = some (.lst acc) ∧ acc.length < sizeLine ∧ ∃ acc2 : List V, acc2.length = i + 1 ∧ (upd H4 Dl (.lst (acc ++ [y]))) Dl = some (.lst acc2) ∧ P (i + 1) acc2 (upd H4 Dl (.lst (acc ++ [y])))
theorem lcn {Dl : Addr} {P : Nat → List V → Hp → Prop} {i : Nat} {y : V} {H4 : Hp} {acc : List V} (hl : acc.length = i) (hi : i ≤ 1000000) (h : H4 Dl = some (.lst acc)) (p : P (i + 1) (acc ++ [y]) (upd H4 Dl (.lst (acc ++ [y])))) : LcN Dl P i y H4 :=
  ⟨acc, h, lt1M (by omega), acc ++ [y], by rw [List.length_append]; simp; omega, upd_same, p⟩
/-- a comprehension with a name and no test -/
theorem lc1 {Dl : Addr} (P : Nat → List V → Hp → Prop) (w : Walk J n G Y) (hw : ∀ x, wipe ((wipe σ vs).set j (some x)) vs = wipe σ vs) (h0 : P 0 [] (upd H1 Dl (.lst []))) (hG : ∀ i acc H, P i acc H → G H)
    (hs : ∀ i x acc H H', i < n → acc.length = i → H Dl = some (.lst acc) → P i acc H → Y i H x H' → te ((wipe σ vs).set j (some x)) H' fun y H4 => LcN Dl P i y H4)
    (hd : ∀ acc H, acc.length = n → H Dl = some (.lst acc) → P n acc H → Qd H) : LcB J (gName j) tYes te vs σ Dl H1 Qd := by
  refine lc_it w (fun i H => ∃ acc : List V, acc.length = i ∧ H Dl = some (.lst acc) ∧ P i acc H) ⟨[], rfl, upd_same, h0⟩ (fun i H _ ⟨acc, _, _, p⟩ => hG i acc H p) ?_ (fun H ⟨acc, e1, e2, p⟩ => hd acc H e1 e2 p)
  rintro i x H H' hi ⟨acc, e1, e2, p⟩ y
  exact ⟨hw x, hs i x acc H H' hi e1 e2 p y⟩
theorem fo1 (w : Walk J n G Y) (P : Nat → L2.St → Hp → Prop) (h0 : P 0 σ H) (hG : ∀ i σ H, P i σ H → G H)
    (hs : ∀ i x σ H H', i < n → P i σ H → Y i H x H' → tb { D with nx := P (i + 1), ct := P (i + 1), bk := D.nx } (σ.set j (some x)) H') (hd : ∀ σ H, P n σ H → D.nx σ H) : ForB J (gName j) tb D σ H :=
  for_it w P h0 (fun i σ H _ p => hG i σ H p) hs hd
end
end KB
set_option Elab.async false
set_option linter.all false
set_option maxRecDepth 100000
set_option maxHeartbeats 4000000
/-! texts of things, read and written: plain mathematics -/
namespace Tx
open PySem
open SX (S)
def isSg (c : Nat) : Bool := decide (32 ≤ c ∧ c ≤ 126)
def isDg (c : Nat) : Bool := decide (48 ≤ c ∧ c ≤ 57)
mutual
def isTh : PyData → Nat → Bool
  | .none, _ => true
  | .int i, _ => decide (-999999999999999999999999999999 ≤ i ∧ i ≤ 999999999999999999999999999999)
  | .str s, _ => s.cps.toList.all isSg
  | .tuple xs, n => (match n with
    | 0 => false
    | m + 1 => isThs xs m)
  | .bool _, _ => false
  | .list _, _ => false
  | .dict _, _ => false
def isThs : List PyData → Nat → Bool
  | [], _ => true
  | x :: xs, n => isTh x n && isThs xs n
end
def intC (i : Int) : List Nat := if i < 0 then 45 :: TL.numL i.natAbs else TL.numL i.natAbs
def esc1 (c : Nat) : List Nat := if c = 39 ∨ c = 126 then [126, c] else [c]
def escC (l : List Nat) : List Nat := l.flatMap esc1
mutual
def pk : PyData → List Nat
  | .none => [46]
  | .int i => intC i
  | .str s => 39 :: (escC s.cps.toList ++ [39])
  | .tuple xs => 40 :: (TL.joinL [44] (pks xs) ++ [41])
  | .bool _ => []
  | .list _ => []
  | .dict _ => []
def pks : List PyData → List (List Nat)
  | [] => []
  | x :: xs => pk x :: pks xs
end
/-- what is read: a thing, what is left, the place; or the place of the first wrong sign -/
inductive Res where
  | ok (d : PyData) (r : List Nat) (p : Nat)
  | bad (p : Nat)
/-- a string behind its quote -/
def rdS : List Nat → Nat → List Nat → Res
  | [], p, _ => .bad p
  | c :: r, p, acc => if c = 39 then .ok (.str (S acc)) r (p + 1) else if isSg c = false then .bad p else if c = 126 then (match r with
      | [] => .bad (p + 1)
      | c' :: r' => if c' = 39 ∨ c' = 126 then rdS r' (p + 2) (acc ++ [c']) else .bad (p + 1)) else rdS r (p + 1) (acc ++ [c])
/-- up to so many digits -/
def digs : Nat → List Nat → List Nat
  | 0, _ => []
  | _ + 1, [] => []
  | k + 1, c :: r => if isDg c = true then c :: digs k r else []
def afterD (cs : List Nat) : List Nat := cs.drop (digs 30 cs).length
def rdU (neg : Bool) (cs : List Nat) (p : Nat) : Res := match cs with
  | 48 :: r => if neg = true then .bad p else .ok (.int 0) r (p + 1)
  | r => if digs 30 r = [] then .bad p else .ok (.int (if neg = true then -((NumText.digitsVal (digs 30 r) : Nat) : Int) else ((NumText.digitsVal (digs 30 r) : Nat) : Int))) (afterD r) (p + (digs 30 r).length)
def rdI (cs : List Nat) (p : Nat) : Res := match cs with
  | 45 :: r => rdU true r (p + 1)
  | r => rdU false r p
mutual
/-- a thing, k tuples may still be opened; f: fuel -/
def pv : Nat → Nat → List Nat → Nat → Res
  | 0, _, _, p => .bad p
  | f + 1, k, cs, p => match cs with
    | [] => .bad p
    | 46 :: r => .ok .none r (p + 1)
    | 39 :: r => rdS r (p + 1) []
    | 40 :: r => (match k with
      | 0 => .bad p
      | k' + 1 => (match r with
        | 41 :: r' => .ok (.tuple []) r' (p + 2)
        | _ => pi f k' r (p + 1) []))
    | _ => rdI cs p
/-- the items of a tuple -/
def pi : Nat → Nat → List Nat → Nat → List PyData → Res
  | 0, _, _, p, _ => .bad p
  | f + 1, k, cs, p, acc => match pv f k cs p with
    | .bad q => .bad q
    | .ok d r q => match r with
      | 41 :: r' => .ok (.tuple (acc ++ [d])) r' (q + 1)
      | 44 :: r' => pi f k r' (q + 1) (acc ++ [d])
      | _ => .bad q
end
/-! ### what is left is shorter -/
def Res.le (cs : List Nat) (p : Nat) : Res → Prop
  | .ok _ r q => r.length < cs.length ∧ q + r.length = p + cs.length
  | .bad q => p ≤ q ∧ q ≤ p + cs.length
theorem digs_le : ∀ (k : Nat) (cs : List Nat), (digs k cs).length ≤ cs.length ∧ (digs k cs).length ≤ k
  | 0, cs => by simp [digs]
  | k + 1, [] => by simp [digs]
  | k + 1, c :: r => by
    have h := digs_le k r
    unfold digs
    split
    · simp only [List.length_cons]; omega
    · simp
theorem rdS_le : ∀ (n : Nat) (cs : List Nat) (p : Nat) (acc : List Nat), cs.length ≤ n → (rdS cs p acc).le (39 :: cs) (p - 1) ∨ p = 0
  | n, [], p, acc, _ => by
    unfold rdS
    by_cases h : p = 0
    · exact .inr h
    · refine .inl ⟨by omega, ?_⟩
      simp only [List.length_cons, List.length_nil]; omega
  | 0, c :: r, p, acc, h => by simp at h
  | n + 1, c :: r, p, acc, h => by
    by_cases hp : p = 0
    · exact .inr hp
    refine .inl ?_
    unfold rdS
    simp only [List.length_cons] at h
    split
    · refine ⟨?_, ?_⟩ <;> simp only [List.length_cons] <;> omega
    · split
      · refine ⟨?_, ?_⟩ <;> (try simp only [List.length_cons]) <;> omega
      · split
        · cases r with
          | nil => refine ⟨?_, ?_⟩ <;> (try simp only [List.length_cons]) <;> omega
          | cons c' r' =>
            simp only [List.length_cons] at h
            show Res.le _ _ (if c' = 39 ∨ c' = 126 then rdS r' (p + 2) (acc ++ [c']) else .bad (p + 1))
            split
            · rcases rdS_le n r' (p + 2) (acc ++ [c']) (by omega) with z | z
              · revert z
                cases rdS r' (p + 2) (acc ++ [c']) with
                | ok d r q => rintro ⟨z1, z2⟩; refine ⟨?_, ?_⟩ <;> simp only [List.length_cons] at * <;> omega
                | bad q => rintro ⟨z1, z2⟩; refine ⟨?_, ?_⟩ <;> (try simp only [List.length_cons] at *) <;> omega
              · omega
            · refine ⟨?_, ?_⟩ <;> (try simp only [List.length_cons]) <;> omega
        · rcases rdS_le n r (p + 1) (acc ++ [c]) (by omega) with z | z
          · revert z
            cases rdS r (p + 1) (acc ++ [c]) with
            | ok d r q => rintro ⟨z1, z2⟩; refine ⟨?_, ?_⟩ <;> simp only [List.length_cons] at * <;> omega
            | bad q => rintro ⟨z1, z2⟩; refine ⟨?_, ?_⟩ <;> (try simp only [List.length_cons] at *) <;> omega
          · omega
theorem rdU_le (neg : Bool) (cs : List Nat) (p : Nat) : (rdU neg cs p).le cs p := by
  unfold rdU
  split
  · split
    · refine ⟨?_, ?_⟩ <;> (try simp only [List.length_cons]) <;> omega
    · refine ⟨?_, ?_⟩ <;> simp only [List.length_cons] <;> omega
  · have h := digs_le 30 cs
    split
    · refine ⟨?_, ?_⟩ <;> omega
    · rename_i hne
      have h0 : 0 < (digs 30 cs).length := List.length_pos_iff.mpr hne
      refine ⟨?_, ?_⟩ <;> unfold afterD <;> rw [List.length_drop] <;> omega
theorem rdI_le (cs : List Nat) (p : Nat) : (rdI cs p).le cs p := by
  unfold rdI
  split
  · rename_i r
    have h := rdU_le true r (p + 1)
    revert h
    cases rdU true r (p + 1) with
    | ok d r q => rintro ⟨z1, z2⟩; refine ⟨?_, ?_⟩ <;> simp only [List.length_cons] at * <;> omega
    | bad q => rintro ⟨z1, z2⟩; refine ⟨?_, ?_⟩ <;> (try simp only [List.length_cons] at *) <;> omega
  · exact rdU_le false cs p

theorem rdS_le1 (cs : List Nat) (p : Nat) (acc : List Nat) : (rdS cs (p + 1) acc).le (39 :: cs) p := by
  rcases rdS_le cs.length cs (p + 1) acc (Nat.le_refl _) with h | h
  · exact h
  · omega
mutual
theorem pv_le : ∀ (f k : Nat) (cs : List Nat) (p : Nat), (pv f k cs p).le cs p
  | 0, _, cs, p => by unfold pv; exact ⟨by omega, by omega⟩
  | f + 1, k, cs, p => by
    unfold pv
    split
    · exact ⟨by omega, by omega⟩
    · refine ⟨?_, ?_⟩ <;> simp only [List.length_cons] <;> omega
    · exact rdS_le1 _ _ _
    · rename_i r
      cases k with
      | zero => refine ⟨?_, ?_⟩ <;> (try simp only [List.length_cons]) <;> omega
      | succ k' =>
        dsimp only
        split
        · refine ⟨?_, ?_⟩ <;> simp only [List.length_cons] <;> omega
        · have h := pi_le f k' r (p + 1) []
          revert h
          cases pi f k' r (p + 1) [] with
          | ok d r q => rintro ⟨z1, z2⟩; refine ⟨?_, ?_⟩ <;> simp only [List.length_cons] at * <;> omega
          | bad q => rintro ⟨z1, z2⟩; refine ⟨?_, ?_⟩ <;> (try simp only [List.length_cons] at *) <;> omega
    · exact rdI_le _ _
theorem pi_le : ∀ (f k : Nat) (cs : List Nat) (p : Nat) (acc : List PyData), (pi f k cs p acc).le cs p
  | 0, _, cs, p, _ => by unfold pi; exact ⟨by omega, by omega⟩
  | f + 1, k, cs, p, acc => by
    unfold pi
    have h := pv_le f k cs p
    revert h
    cases pv f k cs p with
    | bad q => exact fun h => h
    | ok d r q =>
      rintro ⟨z1, z2⟩
      dsimp only
      split
      · refine ⟨?_, ?_⟩ <;> simp only [List.length_cons] at * <;> omega
      · rename_i r'
        have h := pi_le f k r' (q + 1) (acc ++ [d])
        revert h
        cases pi f k r' (q + 1) (acc ++ [d]) with
        | ok d r q => rintro ⟨z1, z2⟩; refine ⟨?_, ?_⟩ <;> simp only [List.length_cons] at * <;> omega
        | bad q => rintro ⟨z1, z2⟩; refine ⟨?_, ?_⟩ <;> (try simp only [List.length_cons] at *) <;> omega
      · refine ⟨?_, ?_⟩ <;> omega
end
/-! ### the fuel does not matter where there is enough of it -/
theorem fuel : ∀ (n f g k : Nat) (cs : List Nat) (p : Nat), cs.length ≤ n →
    (2 * cs.length + 1 ≤ f → 2 * cs.length + 1 ≤ g → pv f k cs p = pv g k cs p) ∧ ∀ acc, 2 * cs.length + 2 ≤ f → 2 * cs.length + 2 ≤ g → pi f k cs p acc = pi g k cs p acc := by
  intro n
  induction n with
  | zero =>
    intro f g k cs p hn
    have e : cs = [] := List.length_eq_zero_iff.mp (by omega)
    subst e
    refine ⟨fun hf hg => ?_, fun acc hf hg => ?_⟩
    · obtain ⟨f, rfl⟩ : ∃ f', f = f' + 1 := ⟨f - 1, by omega⟩
      obtain ⟨g, rfl⟩ : ∃ f', g = f' + 1 := ⟨g - 1, by omega⟩
      rfl
    · obtain ⟨f, rfl⟩ : ∃ f', f = f' + 2 := ⟨f - 2, by omega⟩
      obtain ⟨g, rfl⟩ : ∃ f', g = f' + 2 := ⟨g - 2, by omega⟩
      rfl
  | succ n ih =>
    have A : ∀ (f g k : Nat) (cs : List Nat) (p : Nat), cs.length ≤ n + 1 → 2 * cs.length + 1 ≤ f → 2 * cs.length + 1 ≤ g → pv f k cs p = pv g k cs p := by
      intro f g k cs p hn hf hg
      obtain ⟨f, rfl⟩ : ∃ f', f = f' + 1 := ⟨f - 1, by omega⟩
      obtain ⟨g, rfl⟩ : ∃ f', g = f' + 1 := ⟨g - 1, by omega⟩
      unfold pv
      split
      · rfl
      · rfl
      · rfl
      · cases k with
        | zero => rfl
        | succ k' =>
          dsimp only
          split
          · rfl
          · simp only [List.length_cons] at hn hf hg
            exact (ih f g k' _ (p + 1) (by omega)).2 [] (by omega) (by omega)
      · rfl
    intro f g k cs p hn
    refine ⟨A f g k cs p hn, fun acc hf hg => ?_⟩
    obtain ⟨f, rfl⟩ : ∃ f', f = f' + 1 := ⟨f - 1, by omega⟩
    obtain ⟨g, rfl⟩ : ∃ f', g = f' + 1 := ⟨g - 1, by omega⟩
    unfold pi
    rw [A f g k cs p hn (by omega) (by omega)]
    have h := pv_le g k cs p
    revert h
    cases pv g k cs p with
    | bad q => exact fun _ => rfl
    | ok d r q =>
      rintro ⟨z1, z2⟩
      dsimp only
      split
      · rfl
      · simp only [List.length_cons] at z1 z2
        exact (ih f g k _ (q + 1) (by omega)).2 _ (by omega) (by omega)
      · rfl
/-- a thing; the items of a tuple -/
def PV (k : Nat) (cs : List Nat) (p : Nat) : Res := pv (2 * cs.length + 1) k cs p
def PI (k : Nat) (cs : List Nat) (p : Nat) (acc : List PyData) : Res := pi (2 * cs.length + 2) k cs p acc
theorem PV_nil (k p : Nat) : PV k [] p = .bad p := rfl
theorem PV_non (k p : Nat) (r : List Nat) : PV k (46 :: r) p = .ok .none r (p + 1) := rfl
theorem PV_str (k p : Nat) (r : List Nat) : PV k (39 :: r) p = rdS r (p + 1) [] := rfl
theorem PV_deep (p : Nat) (r : List Nat) : PV 0 (40 :: r) p = .bad p := rfl
theorem PV_emp (k p : Nat) (r : List Nat) : PV (k + 1) (40 :: 41 :: r) p = .ok (.tuple []) r (p + 2) := rfl
theorem pv_tup_eq (f k p : Nat) (r : List Nat) : pv (f + 1) (k + 1) (40 :: r) p = match r with
        | 41 :: r' => .ok (.tuple []) r' (p + 2)
        | _ => pi f k r (p + 1) [] := rfl
theorem PV_tup (k p : Nat) (r : List Nat) (h : ∀ r', r ≠ 41 :: r') : PV (k + 1) (40 :: r) p = PI k r (p + 1) [] := by
  unfold PV PI
  simp only [List.length_cons]
  rw [show 2 * (r.length + 1) + 1 = (2 * r.length + 2) + 1 by omega]
  rw [pv_tup_eq]
  split
  · rename_i r'
    exact absurd rfl (h r')
  · rfl
theorem PV_int (k p : Nat) (cs : List Nat) (h0 : cs ≠ []) (h1 : ∀ r, cs ≠ 46 :: r) (h2 : ∀ r, cs ≠ 39 :: r) (h3 : ∀ r, cs ≠ 40 :: r) : PV k cs p = rdI cs p := by
  unfold PV
  unfold pv
  split
  · exact absurd rfl h0
  · exact absurd rfl (h1 _)
  · exact absurd rfl (h2 _)
  · exact absurd rfl (h3 _)
  · rfl
theorem PI_eq (k p : Nat) (cs : List Nat) (acc : List PyData) : PI k cs p acc = match PV k cs p with
    | .bad q => .bad q
    | .ok d r q => match r with
      | 41 :: r' => .ok (.tuple (acc ++ [d])) r' (q + 1)
      | 44 :: r' => PI k r' (q + 1) (acc ++ [d])
      | _ => .bad q := by
  unfold PI PV
  rw [show 2 * cs.length + 2 = (2 * cs.length + 1) + 1 by omega]
  conv => lhs; unfold pi
  have h := pv_le (2 * cs.length + 1) k cs p
  revert h
  cases pv (2 * cs.length + 1) k cs p with
  | bad q => exact fun _ => rfl
  | ok d r q =>
    rintro ⟨z1, z2⟩
    dsimp only
    split
    · rfl
    · simp only [List.length_cons] at z1
      exact (fuel _ _ _ _ _ _ (Nat.le_refl _)).2 _ (by omega) (by omega)
    · rfl
def piNext (k : Nat) (acc : List PyData) : Res → Res
  | .bad q => .bad q
  | .ok d r q => (match r with
      | 41 :: r' => .ok (.tuple (acc ++ [d])) r' (q + 1)
      | 44 :: r' => PI k r' (q + 1) (acc ++ [d])
      | _ => .bad q)
theorem PI_next (k p : Nat) (cs : List Nat) (acc : List PyData) : PI k cs p acc = piNext k acc (PV k cs p) := by
  rw [PI_eq]
  cases PV k cs p <;> rfl
theorem PV_le (k : Nat) (cs : List Nat) (p : Nat) : (PV k cs p).le cs p := pv_le _ _ _ _
theorem PI_le (k : Nat) (cs : List Nat) (p : Nat) (acc : List PyData) : (PI k cs p acc).le cs p := pi_le _ _ _ _ _
/-! ### a whole text -/
def fin1 : Res → Sum PyData Nat
  | .bad q => .inr q
  | .ok d r q => match r with
    | [] => .inl d
    | _ :: _ => .inr q
def parse (cs : List Nat) : Sum PyData Nat := fin1 (PV 30 cs 0)

/-! ### the reading with a stack -/
def fin : List (List PyData) → PyData → List Nat → Nat → Sum PyData Nat
  | [], d, r, p => (match r with
    | [] => .inl d
    | _ :: _ => .inr p)
  | acc :: L, d, r, p => (match r with
    | 41 :: r' => fin L (.tuple (acc ++ [d])) r' (p + 1)
    | 44 :: r' => (match PI (30 - (L.length + 1)) r' (p + 1) (acc ++ [d]) with
      | .bad q => .inr q
      | .ok d' r2 q2 => fin L d' r2 q2)
    | _ => .inr p)
def fin2 (L : List (List PyData)) : Res → Sum PyData Nat
  | .bad q => .inr q
  | .ok d r q => fin L d r q
def exq (L : List (List PyData)) (cs : List Nat) (p : Nat) : Sum PyData Nat := fin2 L (PV (30 - L.length) cs p)
theorem fin2_nil (R : Res) : fin2 [] R = fin1 R := by
  cases R with
  | bad q => rfl
  | ok d r q => cases r <;> rfl
theorem exq_start (cs : List Nat) : exq [] cs 0 = parse cs := fin2_nil _
theorem fin_close (acc : List PyData) (L : List (List PyData)) (d : PyData) (r : List Nat) (p : Nat) : fin (acc :: L) d (41 :: r) p = fin L (.tuple (acc ++ [d])) r (p + 1) := rfl
theorem fin_eq (acc : List PyData) (L : List (List PyData)) (d : PyData) (r : List Nat) (p : Nat) : fin (acc :: L) d r p = match r with
    | 41 :: r' => fin L (.tuple (acc ++ [d])) r' (p + 1)
    | 44 :: r' => fin2 L (PI (30 - (L.length + 1)) r' (p + 1) (acc ++ [d]))
    | _ => .inr p := by
  conv => lhs; unfold fin
  split
  · rfl
  · rename_i r'
    cases PI (30 - (L.length + 1)) r' (p + 1) (acc ++ [d]) <;> rfl
  · rfl
theorem fin2_PI (acc : List PyData) (L : List (List PyData)) (cs : List Nat) (p : Nat) : fin2 L (PI (30 - (L.length + 1)) cs p acc) = exq (acc :: L) cs p := by
  rw [PI_eq]
  unfold exq
  show _ = fin2 (acc :: L) (PV (30 - (L.length + 1)) cs p)
  cases PV (30 - (L.length + 1)) cs p with
  | bad q => rfl
  | ok d r q =>
    show _ = fin (acc :: L) d r q
    rw [fin_eq]
    dsimp only
    split <;> rfl
theorem fin_comma (acc : List PyData) (L : List (List PyData)) (d : PyData) (r : List Nat) (p : Nat) : fin (acc :: L) d (44 :: r) p = exq ((acc ++ [d]) :: L) r (p + 1) := by
  rw [← fin2_PI, fin_eq]
  rfl
theorem fin_other (acc : List PyData) (L : List (List PyData)) (d : PyData) (r : List Nat) (p : Nat) (h1 : ∀ r', r ≠ 41 :: r') (h2 : ∀ r', r ≠ 44 :: r') : fin (acc :: L) d r p = .inr p := by
  unfold fin
  split
  · exact absurd rfl (h1 _)
  · exact absurd rfl (h2 _)
  · rfl
theorem fin_end (d : PyData) (p : Nat) : fin [] d [] p = .inl d := rfl
theorem fin_more (d : PyData) (c : Nat) (r : List Nat) (p : Nat) : fin [] d (c :: r) p = .inr p := rfl
theorem exq_deep (L : List (List PyData)) (r : List Nat) (p : Nat) (h : L.length = 30) : exq L (40 :: r) p = .inr p := by
  unfold exq
  rw [h]
  rfl
theorem exq_empty (L : List (List PyData)) (r : List Nat) (p : Nat) (h : L.length < 30) : exq L (40 :: 41 :: r) p = fin L (.tuple []) r (p + 2) := by
  unfold exq
  rw [show 30 - L.length = (30 - (L.length + 1)) + 1 by omega, PV_emp]
  rfl
theorem exq_open (L : List (List PyData)) (r : List Nat) (p : Nat) (h : L.length < 30) (hr : ∀ r', r ≠ 41 :: r') : exq L (40 :: r) p = exq ([] :: L) r (p + 1) := by
  rw [← fin2_PI]
  unfold exq
  rw [show 30 - L.length = (30 - (L.length + 1)) + 1 by omega, PV_tup _ _ _ hr]
/-- a thing that is no tuple -/
def PW (cs : List Nat) (p : Nat) : Res := match cs with
  | [] => .bad p
  | 46 :: r => .ok .none r (p + 1)
  | 39 :: r => rdS r (p + 1) []
  | _ => rdI cs p
theorem PV_PW (k : Nat) (cs : List Nat) (p : Nat) (h : ∀ r, cs ≠ 40 :: r) : PV k cs p = PW cs p := by
  unfold PW
  split
  · rfl
  · rfl
  · rfl
  · rename_i h0 h1 h2
    exact PV_int k p cs h0 h1 h2 h
theorem exq_plain (L : List (List PyData)) (cs : List Nat) (p : Nat) (h : ∀ r, cs ≠ 40 :: r) : exq L cs p = fin2 L (PW cs p) := by
  unfold exq
  rw [PV_PW _ _ _ h]
/-! ### what is read is a thing -/
theorem digs_dg : ∀ (k : Nat) (cs : List Nat), NumText.AllDigits (digs k cs)
  | 0, cs => by
    intro c hc
    simp [digs] at hc
  | k + 1, [] => by
    intro c hc
    simp [digs] at hc
  | k + 1, c :: r => by
    unfold digs
    split
    · rename_i h
      intro x hx
      rcases List.mem_cons.mp hx with e | hx
      · subst e
        unfold isDg at h
        exact of_decide_eq_true h
      · exact digs_dg k r x hx
    · intro c hc
      simp at hc
theorem val_lt : ∀ (l : List Nat) (a : Nat), NumText.AllDigits l → l.foldl (fun acc c => acc * 10 + (c - 48)) a < (a + 1) * 10 ^ l.length
  | [], a, _ => by simp
  | c :: r, a, h => by
    have hc := h c (List.mem_cons_self ..)
    have ih := val_lt r (a * 10 + (c - 48)) (fun x hx => h x (List.mem_cons_of_mem _ hx))
    simp only [List.foldl_cons, List.length_cons]
    refine Nat.lt_of_lt_of_le ih ?_
    have e : (a + 1) * 10 ^ (r.length + 1) = ((a + 1) * 10) * 10 ^ r.length := by rw [Nat.pow_succ, Nat.mul_assoc, Nat.mul_comm (10 ^ r.length) 10]
    rw [e]
    exact Nat.mul_le_mul_right _ (by omega)
theorem val_digs (cs : List Nat) : NumText.digitsVal (digs 30 cs) < 10 ^ 30 := by
  have h := val_lt (digs 30 cs) 0 (digs_dg 30 cs)
  have h2 := (digs_le 30 cs).2
  have h3 : 10 ^ (digs 30 cs).length ≤ 10 ^ 30 := Nat.pow_le_pow_right (by decide) h2
  unfold NumText.digitsVal
  omega
def Res.th (k : Nat) : Res → Prop
  | .ok d _ _ => isTh d k = true
  | .bad _ => True
theorem rdS_th (k : Nat) : ∀ (n : Nat) (cs : List Nat) (p : Nat) (acc : List Nat), cs.length ≤ n → acc.all isSg = true → (rdS cs p acc).th k
  | n, [], p, acc, _, _ => by unfold rdS; trivial
  | 0, c :: r, p, acc, h, _ => by simp at h
  | n + 1, c :: r, p, acc, h, ha => by
    simp only [List.length_cons] at h
    unfold rdS
    split
    · show isTh (.str (S acc)) k = true
      unfold isTh
      exact ha
    · split
      · trivial
      · rename_i hs
        split
        · cases r with
          | nil => trivial
          | cons c' r' =>
            simp only [List.length_cons] at h
            show Res.th k (if c' = 39 ∨ c' = 126 then rdS r' (p + 2) (acc ++ [c']) else .bad (p + 1))
            split
            · rename_i hc
              refine rdS_th k n r' _ _ (by omega) ?_
              rw [List.all_append, ha]
              rcases hc with e | e <;> subst e <;> rfl
            · trivial
        · refine rdS_th k n r _ _ (by omega) ?_
          rw [List.all_append, ha]
          simp only [List.all_cons, List.all_nil, Bool.and_true, Bool.true_and]
          cases e : isSg c
          · exact absurd e hs
          · rfl
theorem rdU_th (k : Nat) (neg : Bool) (cs : List Nat) (p : Nat) : (rdU neg cs p).th k := by
  unfold rdU
  split
  · split
    · trivial
    · show isTh (.int 0) k = true
      unfold isTh
      decide
  · split
    · trivial
    · have h := val_digs cs
      have e : (10 : Nat) ^ 30 = 1000000000000000000000000000000 := by decide
      rw [e] at h
      show isTh (.int _) k = true
      unfold isTh
      refine decide_eq_true ?_
      split <;> omega
theorem rdI_th (k : Nat) (cs : List Nat) (p : Nat) : (rdI cs p).th k := by
  unfold rdI
  split
  · exact rdU_th ..
  · exact rdU_th ..
theorem isThs_app (k : Nat) : ∀ (xs ys : List PyData), isThs xs k = true → isThs ys k = true → isThs (xs ++ ys) k = true
  | [], ys, _, h => h
  | x :: xs, ys, h1, h2 => by
    unfold isThs at h1
    rw [Bool.and_eq_true] at h1
    show isThs (x :: (xs ++ ys)) k = true
    unfold isThs
    rw [h1.1, isThs_app k xs ys h1.2 h2]
    rfl
mutual
theorem pv_th : ∀ (f k : Nat) (cs : List Nat) (p : Nat), (pv f k cs p).th k
  | 0, _, cs, p => by unfold pv; trivial
  | f + 1, k, cs, p => by
    unfold pv
    split
    · trivial
    · show isTh .none k = true
      unfold isTh
      rfl
    · exact rdS_th k _ _ _ _ (Nat.le_refl _) rfl
    · cases k with
      | zero => trivial
      | succ k' =>
        dsimp only
        split
        · show isTh (.tuple []) (k' + 1) = true
          unfold isTh isThs
          rfl
        · exact pi_th f k' _ (p + 1) [] rfl
    · exact rdI_th k _ _
theorem pi_th : ∀ (f k : Nat) (cs : List Nat) (p : Nat) (acc : List PyData), isThs acc k = true → (pi f k cs p acc).th (k + 1)
  | 0, _, cs, p, _, _ => by unfold pi; trivial
  | f + 1, k, cs, p, acc, ha => by
    unfold pi
    have h := pv_th f k cs p
    revert h
    cases pv f k cs p with
    | bad q => exact fun _ => trivial
    | ok d r q =>
      intro h
      have h' : isTh d k = true := h
      have ha2 : isThs (acc ++ [d]) k = true := isThs_app k acc [d] ha (by unfold isThs; rw [h']; rfl)
      dsimp only
      split
      · show isTh (.tuple (acc ++ [d])) (k + 1) = true
        unfold isTh
        exact ha2
      · exact pi_th f k _ (q + 1) (acc ++ [d]) ha2
      · trivial
end
theorem parse_th (cs : List Nat) (d : PyData) (h : parse cs = .inl d) : isTh d 30 = true := by
  have z : (PV 30 cs 0).th 30 := pv_th _ _ _ _
  unfold parse at h
  cases e : PV 30 cs 0 with
  | bad q =>
    rw [e] at h
    cases h
  | ok d' r q =>
    rw [e] at h z
    cases r with
    | nil =>
      have e : d' = d := Sum.inl.inj h
      subst e
      exact z
    | cons c r => cases h
mutual
theorem th_lay : ∀ (d : PyData) (k : Nat), isTh d k = true → d.canLay0 = true ∧ d.depth ≤ k
  | .none, k, _ => by simp [PyData.canLay0, PyData.depth]
  | .int i, k, _ => by simp [PyData.canLay0, PyData.depth]
  | .str s, k, h => by
    unfold isTh at h
    refine ⟨?_, by simp [PyData.depth]⟩
    show PyData.strOk s = true
    unfold PyData.strOk
    rw [← Array.all_toList, List.all_eq_true]
    intro c hc
    have z := List.all_eq_true.mp h c hc
    unfold isSg at z
    have z2 := of_decide_eq_true z
    exact decide_eq_true (by omega)
  | .tuple xs, 0, h => by
    unfold isTh at h
    cases h
  | .tuple xs, k + 1, h => by
    unfold isTh at h
    have z := ths_lay xs k h
    refine ⟨?_, ?_⟩
    · simp only [PyData.canLay0]
      exact z.1
    · simp only [PyData.depth]
      omega
  | .bool _, k, h => by unfold isTh at h; cases h
  | .list _, k, h => by unfold isTh at h; cases h
  | .dict _, k, h => by unfold isTh at h; cases h
theorem ths_lay : ∀ (xs : List PyData) (k : Nat), isThs xs k = true → PyData.canLayAll0 xs = true ∧ PyData.depthAll xs ≤ k
  | [], k, _ => by simp [PyData.canLayAll0, PyData.depthAll]
  | x :: xs, k, h => by
    unfold isThs at h
    rw [Bool.and_eq_true] at h
    have z1 := th_lay x k h.1
    have z2 := ths_lay xs k h.2
    refine ⟨?_, ?_⟩
    · simp only [PyData.canLayAll0]
      rw [z1.1, z2.1]
      rfl
    · simp only [PyData.depthAll]
      omega
end

/-! ### a written thing is read back -/
def noD (r : List Nat) : Prop := ∀ c t, r = c :: t → isDg c = false
theorem digs_app : ∀ (k : Nat) (ds r : List Nat), NumText.AllDigits ds → ds.length ≤ k → noD r → digs k (ds ++ r) = ds
  | 0, [], r, _, _, _ => rfl
  | k + 1, [], [], _, _, _ => rfl
  | k + 1, [], c :: t, _, _, hr => by
    show digs (k + 1) (c :: t) = []
    unfold digs
    rw [hr c t rfl]
    rfl
  | 0, d :: ds, r, _, hl, _ => by simp at hl
  | k + 1, d :: ds, r, h, hl, hr => by
    show digs (k + 1) (d :: (ds ++ r)) = d :: ds
    unfold digs
    have hd : isDg d = true := by
      unfold isDg
      exact decide_eq_true (h d (List.mem_cons_self ..))
    rw [hd, if_pos rfl, digs_app k ds r (fun x hx => h x (List.mem_cons_of_mem _ hx)) (by simp only [List.length_cons] at hl; omega) hr]
theorem numL_head : ∀ n : Nat, 0 < n → ∃ c t, TL.numL n = c :: t ∧ 49 ≤ c ∧ c ≤ 57 := by
  intro n
  induction n using Nat.strongRecOn with
  | _ n ih =>
    intro h0
    by_cases h : n < 10
    · exact ⟨48 + n, [], TL.numL_lt h, by omega, by omega⟩
    · obtain ⟨c, t, e, h1, h2⟩ := ih (n / 10) (by omega) (by omega)
      refine ⟨c, t ++ [48 + n % 10], ?_, h1, h2⟩
      rw [TL.numL_step (by omega), e]
      rfl
theorem numL_len30 {n : Nat} (h : n ≤ 999999999999999999999999999999) : (TL.numL n).length ≤ 30 := TL.numL_len (by decide) (by
  have e : (10 : Nat) ^ 30 = 1000000000000000000000000000000 := by decide
  omega)
theorem rdU_num (neg : Bool) (n : Nat) (r : List Nat) (p : Nat) (h0 : 0 < n) (h : n ≤ 999999999999999999999999999999) (hr : noD r) :
    rdU neg (TL.numL n ++ r) p = .ok (.int (if neg = true then -(n : Int) else (n : Int))) r (p + (TL.numL n).length) := by
  obtain ⟨c, t, e, h1, h2⟩ := numL_head n h0
  have ed : digs 30 (TL.numL n ++ r) = TL.numL n := digs_app 30 _ r (TL.numL_digits n) (numL_len30 h) hr
  have ne : TL.numL n ≠ [] := TL.numL_ne n
  unfold rdU
  split
  · rename_i r' z
    rw [e] at z
    have z2 := (List.cons.inj z).1
    omega
  · rw [ed, if_neg ne, TL.numL_val]
    unfold afterD
    rw [ed, List.drop_left]
theorem rdI_num (i : Int) (r : List Nat) (p : Nat) (h : -999999999999999999999999999999 ≤ i ∧ i ≤ 999999999999999999999999999999) (hr : noD r) : rdI (intC i ++ r) p = .ok (.int i) r (p + (intC i).length) := by
  unfold intC
  by_cases hn : i < 0
  · rw [if_pos hn]
    show rdU true (TL.numL i.natAbs ++ r) (p + 1) = _
    rw [rdU_num true _ r (p + 1) (by omega) (by omega) hr]
    have q : -((i.natAbs : Nat) : Int) = i := by omega
    simp only [if_true, List.length_cons, q]
    congr 1
    omega
  · rw [if_neg hn]
    by_cases hz : i = 0
    · subst hz
      show rdI (TL.numL 0 ++ r) p = .ok (.int 0) r (p + (TL.numL 0).length)
      rw [TL.numL_lt (by decide)]
      rfl
    · obtain ⟨c, t, e, h1, h2⟩ := numL_head i.natAbs (by omega)
      have er := rdU_num false i.natAbs r p (by omega) (by omega) hr
      unfold rdI
      split
      · rename_i r' z
        rw [e] at z
        have z2 := (List.cons.inj z).1
        omega
      · rw [er]
        have q : ((i.natAbs : Nat) : Int) = i := by omega
        simp only [Bool.false_eq_true, if_false, q]
theorem rdS_esc : ∀ (l acc : List Nat) (p : Nat) (r : List Nat), l.all isSg = true → rdS (escC l ++ 39 :: r) p acc = .ok (.str (S (acc ++ l))) r (p + (escC l).length + 1)
  | [], acc, p, r, _ => by
    show rdS (39 :: r) p acc = _
    unfold rdS
    rw [if_pos rfl, List.append_nil]
    rfl
  | c :: l, acc, p, r, h => by
    rw [List.all_cons, Bool.and_eq_true] at h
    have e : escC (c :: l) = esc1 c ++ escC l := rfl
    rw [e, List.append_assoc]
    unfold esc1
    by_cases hc : c = 39 ∨ c = 126
    · rw [if_pos hc]
      show rdS (126 :: c :: (escC l ++ 39 :: r)) p acc = _
      unfold rdS
      rw [if_neg (by decide), if_neg (by decide), if_pos rfl]
      show (if c = 39 ∨ c = 126 then rdS (escC l ++ 39 :: r) (p + 2) (acc ++ [c]) else .bad (p + 1)) = _
      rw [if_pos hc, rdS_esc l (acc ++ [c]) (p + 2) r h.2, List.append_assoc]
      simp only [List.length_append, List.length_cons, List.length_nil, List.cons_append, List.nil_append]
      congr 1
      omega
    · rw [if_neg hc]
      show rdS (c :: (escC l ++ 39 :: r)) p acc = _
      unfold rdS
      rw [if_neg (fun z => hc (.inl z)), if_neg (by rw [h.1]; decide), if_neg (fun z => hc (.inr z)), rdS_esc l (acc ++ [c]) (p + 1) r h.2, List.append_assoc]
      simp only [List.length_append, List.length_cons, List.length_nil, List.cons_append, List.nil_append]
      congr 1
      omega
theorem intC_head (i : Int) : ∃ c t, intC i = c :: t ∧ (c = 45 ∨ (48 ≤ c ∧ c ≤ 57)) := by
  unfold intC
  split
  · exact ⟨_, _, rfl, .inl rfl⟩
  · by_cases h : 0 < i.natAbs
    · obtain ⟨c, t, e, h1, h2⟩ := numL_head i.natAbs h
      exact ⟨c, t, e, .inr ⟨by omega, h2⟩⟩
    · have e : i.natAbs = 0 := by omega
      rw [e, TL.numL_lt (by decide)]
      exact ⟨_, _, rfl, .inr (by decide)⟩
theorem pk_head (d : PyData) (k : Nat) (h : isTh d k = true) : ∃ c t, pk d = c :: t ∧ c ≠ 41 ∧ (c = 46 ∨ c = 39 ∨ c = 40 ∨ c = 45 ∨ (48 ≤ c ∧ c ≤ 57)) := by
  cases d with
  | none => exact ⟨46, [], by unfold pk; rfl, by decide, .inl rfl⟩
  | int i =>
    obtain ⟨c, t, e, hc⟩ := intC_head i
    exact ⟨c, t, by unfold pk; exact e, by omega, by omega⟩
  | str s => exact ⟨39, _, by unfold pk; rfl, by decide, .inr (.inl rfl)⟩
  | tuple xs => exact ⟨40, _, by unfold pk; rfl, by decide, .inr (.inr (.inl rfl))⟩
  | bool b => unfold isTh at h; cases h
  | list b => unfold isTh at h; cases h
  | dict b => unfold isTh at h; cases h
theorem joinL_cons (x : List Nat) (xs : List (List Nat)) : TL.joinL [44] (x :: xs) = x ++ (match xs with
    | [] => []
    | _ => 44 :: TL.joinL [44] xs) := by
  cases xs with
  | nil =>
    show x = x ++ []
    rw [List.append_nil]
  | cons y ys => rfl
theorem noD_cons {c : Nat} {t : List Nat} (h : isDg c = false) : noD (c :: t) := fun c' t' e => by
  have e1 := (List.cons.inj e).1
  rw [← e1]
  exact h
mutual
theorem PV_pk : ∀ (d : PyData) (k : Nat) (r : List Nat) (p : Nat), isTh d k = true → noD r → PV k (pk d ++ r) p = .ok d r (p + (pk d).length)
  | .none, k, r, p, _, _ => by unfold pk; rfl
  | .int i, k, r, p, h, hr => by
    unfold isTh at h
    have h' := of_decide_eq_true h
    obtain ⟨c, t, e, hc⟩ := intC_head i
    have hne : ∀ x, x ≠ 45 → ¬ (48 ≤ x ∧ x ≤ 57) → ∀ r', intC i ++ r ≠ x :: r' := fun x h1 h2 r' z => by
      rw [e] at z
      have z2 := (List.cons.inj z).1
      omega
    unfold pk
    rw [PV_int k p _ (by rw [e]; simp) (hne 46 (by decide) (by decide)) (hne 39 (by decide) (by decide)) (hne 40 (by decide) (by decide)), rdI_num i r p h' hr]
  | .str s, k, r, p, h, hr => by
    unfold isTh at h
    unfold pk
    have e := rdS_esc s.cps.toList [] (p + 1) r h
    show PV k (39 :: (escC s.cps.toList ++ [39] ++ r)) p = _
    rw [PV_str, List.append_assoc]
    show rdS (escC s.cps.toList ++ 39 :: r) (p + 1) [] = _
    rw [e]
    show Res.ok (.str (S s.cps.toList)) r _ = _
    rw [SX.S_tl]
    simp only [List.length_cons, List.length_append, List.length_nil]
    congr 1
    omega
  | .tuple [], k, r, p, h, hr => by
    cases k with
    | zero => unfold isTh at h; cases h
    | succ k =>
      unfold pk
      unfold pks
      rfl
  | .tuple (x :: xs), 0, r, p, h, hr => by unfold isTh at h; cases h
  | .tuple (x :: xs), k + 1, r, p, h, hr => by
    unfold isTh at h
    have h' : isThs (x :: xs) k = true := h
    have e := PI_pk x xs k r (p + 1) [] h'
    unfold pk
    have hx : isTh x k = true := by
      unfold isThs at h'
      exact (Bool.and_eq_true_iff.mp h').1
    obtain ⟨c, t, ec, hc, _⟩ := pk_head x k hx
    show PV (k + 1) (40 :: (TL.joinL [44] (pks (x :: xs)) ++ [41] ++ r)) p = _
    rw [PV_tup, List.append_assoc]
    · show PI k (TL.joinL [44] (pks (x :: xs)) ++ 41 :: r) (p + 1) [] = _
      rw [e]
      simp only [List.length_cons, List.length_append, List.length_nil, List.nil_append]
      congr 1
      omega
    · intro r' z
      unfold pks at z
      rw [joinL_cons, ec] at z
      exact hc (List.cons.inj z).1
  | .bool _, k, r, p, h, _ => by unfold isTh at h; cases h
  | .list _, k, r, p, h, _ => by unfold isTh at h; cases h
  | .dict _, k, r, p, h, _ => by unfold isTh at h; cases h
theorem PI_pk : ∀ (x : PyData) (xs : List PyData) (k : Nat) (r : List Nat) (p : Nat) (acc : List PyData), isThs (x :: xs) k = true →
    PI k (TL.joinL [44] (pks (x :: xs)) ++ 41 :: r) p acc = .ok (.tuple (acc ++ (x :: xs))) r (p + (TL.joinL [44] (pks (x :: xs))).length + 1)
  | x, [], k, r, p, acc, h => by
    unfold isThs at h
    have h' := Bool.and_eq_true_iff.mp h
    have e := PV_pk x k (41 :: r) p h'.1 (noD_cons rfl)
    simp only [pks]
    show PI k (pk x ++ 41 :: r) p acc = .ok _ r (p + (pk x).length + 1)
    rw [PI_next, e]
    rfl
  | x, y :: ys, k, r, p, acc, h => by
    unfold isThs at h
    have h' := Bool.and_eq_true_iff.mp h
    have e := PV_pk x k (44 :: (TL.joinL [44] (pks (y :: ys)) ++ 41 :: r)) p h'.1 (noD_cons rfl)
    have e2 := PI_pk y ys k r (p + (pk x).length + 1) (acc ++ [x]) h'.2
    have ej : TL.joinL [44] (pks (x :: y :: ys)) = pk x ++ 44 :: TL.joinL [44] (pks (y :: ys)) := by
      simp only [pks]
      rfl
    rw [ej, List.append_assoc]
    show PI k (pk x ++ 44 :: (TL.joinL [44] (pks (y :: ys)) ++ 41 :: r)) p acc = _
    rw [PI_next, e]
    show PI k (TL.joinL [44] (pks (y :: ys)) ++ 41 :: r) (p + (pk x).length + 1) (acc ++ [x]) = _
    rw [e2, List.append_assoc]
    simp only [List.length_cons, List.length_append, List.cons_append, List.nil_append]
    congr 1
    omega
end
theorem parse_pk (d : PyData) (h : isTh d 30 = true) : parse (pk d) = .inl d := by
  have e := PV_pk d 30 [] 0 h (fun c t z => by cases z)
  rw [List.append_nil] at e
  unfold parse
  rw [e]
  rfl
end Tx
set_option Elab.async false
set_option linter.all false
set_option maxRecDepth 100000
set_option maxHeartbeats 4000000
/-! an own exception class over an own class over ValueError, whose __init__ says super().__init__(place) and self.place = place -/
namespace PySem
namespace BadX
open PySem.W PySem.Calls PyProof.Rows PySem.HandSPX
def iA (p1 p2 : Pos) : Arguments := { posonlyargs := [], args := [{ arg := "self", annotation := none, pos := p1 }, { arg := "place", annotation := none, pos := p2 }], vararg := none, kwonlyargs := [], kw_defaults := [], kwarg := none, defaults := [] }
def iB (r1 r2 r3 r4 r5 r6 q1 q2 q3 q4 : Pos) : List Stmt := [.Expr (.Call (.Attribute (.Call (.Name "super" r1) [] [] r2) "__init__" r3) [.Name "place" r4] [] r5) r6, .Assign [.Attribute (.Name "self" q1) "place" q2] (.Name "place" q3) q4]
def iS : Scope := { kind := .function, names := [(PySem.Str.ofString "self", .local), (PySem.Str.ofString "place", .local), (PySem.Str.ofString "__class__", .free), (PySem.Str.ofString "super", .globalImplicit)], isGenerator := false, isCoroutine := false, more := [] }
/-- what the written part says of the class, at C, and of its __init__, at fI -/
structure BadTxt (prog : Program) (K : Frag) (mg : Str → Option Value) (C fI : Addr) : Prop where
  gC : mg "BadText" = some (.ref C)
  nS : mg "super" = none
  cls : ∃ nm q N bs bm sn sub ab col dd k0 k1 k2 k3 k5, K.lookup C = some (excClassObj nm q C N bs bm true sn sub ab col dd k0 k1 k2 k3 k5 "ValueError.__new__") ∧ refsVE bm = true
  sa : findIn K (.ref C) "__setattr__" = some (some (.builtin "object.__setattr__"))
  noN : findIn K (.ref C) "place" = some none
  iC : findIn K (.ref C) "__init__" = some (some (.ref fI))
  tC : typeIn K (.ref fI) = some (.type "function")
  kC : keepIn K (.ref C) = true
  exC : subIn K (.ref C) (.type "BaseException") = some true
  veC : subIn K (.ref C) (.type "ValueError") = some true
  slf : mroIn K C (.ref C) = some true
  sup : ks_superIn K C C "__init__" = some (some (.builtin "ValueError.__init__"))
  opq : nsIn K cStatics "thirdparty.any" = some none
  tyC : typeIn K (.ref C) = some (.type "type")
  top : (prog.main.scope.names.lookup ("super" : Str)).isSome = false
  fn : ∃ (oc cl ccl : Value) (od cld cdd : Option Addr) (doc pm : Value) (an : Option Addr) (cda cc : Addr) (ct : Value) (osl csl ccs : Array (Option Value)) (vs : Array Value) (file : Str) (tf : Tok) (p1 p2 r1 r2 r3 r4 r5 r6 q1 q2 q3 q4 : Pos),
    K.lookup fI = some ⟨oc, od, .func (ksFn "__init__" "BadText.__init__" (iA p1 p2) (iB r1 r2 r3 r4 r5 r6 q1 q2 q3 q4) iS .none .none doc pm an (.ref cda) ct cc), osl⟩ ∧ codeIn K (.ref cda) "BadText.__init__" = true ∧
    K.lookup cda = some ⟨ccl, cdd, .fields vs, ccs⟩ ∧ vs[2]? = some (.str file tf) ∧ ((prog.main.file : Str) == file) = true ∧ K.lookup cc = some ⟨cl, cld, .cell (some (.ref C)), csl⟩ ∧
    ∀ env : Env, ∃ pl : Sem Bool, eval (.Call (.Attribute (.Call (.Name "super" r1) [] [] r2) "__init__" r3) [.Name "place" r4] [] r5) env = (do
      let ov ← attributeBase (.Call (.Name "super" r1) [] [] r2) "__init__" env (eval (.Call (.Name "super" r1) [] [] r2) env)
      standAt r3.atName
      let (f, first) ← holding [ov] (getMethod ov "__init__" pl)
      callWith r5 f first (backTo r5 (starEach [.Name "place" r4] env)) [])
/-- what __init__ leaves of a fresh exception at x -/
structure InitEnd (h h' : Heap) (x C dx t1 : Addr) (v : Value) : Prop where
  keep : ∀ b o, b ≠ x → h.get? b = some o → h'.get? b = some o
  obj : h'.get? x = some { cls := .ref C, dict := some dx, data := .fields #[.ref t1, .none, .none, .none, .bool false, .none] }
  dbig : h.objs.size ≤ dx
  dne : dx ≠ x
  ns : h'.Ns1 dx (fun y => if y = "place" then some v else none)
structure OwnMade (h h' : Heap) (e C d : Addr) (v : Value) : Prop where
  keep : ∀ b o, h.get? b = some o → h'.get? b = some o
  new : h.objs.size ≤ e
  obj : ∃ oe vs, h'.get? e = some oe ∧ oe.cls = .ref C ∧ oe.dict = some d ∧ oe.data = .fields vs ∧ vs[1]? = some .none
  dbig : h.objs.size ≤ d
  dne : d ≠ e
  ns : h'.Ns1 d (fun y => if y = "place" then some v else none)
section
variable {prog : Program} {w : World} {A : Around} {E : Value → Shared → Prop} {R : Result → Shared → Prop} {s : Shared} {K : Frag} {mg mb : Str → Option Value} {C fI : Addr}
theorem mw_call {u x t0 : Addr} {bm bs : List Value} {nm q : Str} {N : Addr} {hdct : Bool} {sn : List Str} {sub : List Value} {ab : Bool} {col : Option Bool} {dd : Option Addr} {k0 k1 k2 k3 k5 : Option Value} {rest : List Value} {Q : Value → Shared → Prop}
    (hC : s.heap.get? C = some (excClassObj nm q C N bs bm hdct sn sub ab col dd k0 k1 k2 k3 k5 "ValueError.__new__")) (hu : s.heap.get? u = some (kxs_mw "ValueError.__init__" x)) (he : s.heap.get? x = some (excO C t0)) (hz : rest.length ≤ sizeLine)
    (h : ∀ t' h', (∀ b o, b ≠ x → s.heap.get? b = some o → h'.get? b = some o) → h'.get? x = some (excO C t') → Q .none { s with heap := h' }) : wpAny (model prog w) A (call (.ref u) rest) Q E s := by
  have FB := F.excBase_ValueError
  obtain ⟨hh, g, d, tk, os⟩ := s
  refine wpAny_call (codeAny_of_tree ?_)
  show wpAny _ A.in1 (callAny (.ref u) ⟨rest, []⟩) _ _ _
  simp only [callAny]
  refine wpAny_bind (wpAny_load hu ?_)
  simp only [kxs_mw, show (Value.type "method-wrapper" == Value.type "method" || Value.type "method-wrapper" == Value.type "builtin_function_or_method" || Value.type "method-wrapper" == Value.type "method-wrapper") = true by decide, if_true]
  refine KFB.if_so (by decide) ?_
  refine wpAny_bind (check_bound_init FB.toExcCallFacts hC he rfl ?_)
  refine wpAny_bind (wpAny_pure (wpAny_pure ?_))
  refine ⟨plainId_quiet FB.init.plain _, codeAny_builtin FB.initEntry ?_⟩
  exact exc_init_tree (cls := .ref C) (t0 := t0) (dv := none) (c2 := .none) (c3 := .none) (b4 := .bool false) he hz fun h' k e t' => h _ h' k e
abbrev bEnv (K : Frag) (L fI : Addr) (cda cc : Addr) : Env := ksEnv "BadText.__init__" iS L fI (.ref cda) cc
theorem ns_but {h h' : Heap} {L x : Addr} {m : Str → Option Value} (hn : h.Ns L m) (hx : L ≠ x) (k : ∀ b o, b ≠ x → h.get? b = some o → h'.get? b = some o) : h'.Ns L m := by
  obtain ⟨oL, es, ep, hL, r⟩ := hn
  exact ⟨oL, es, ep, k _ _ hx hL, r⟩
theorem kept_but {K : Frag} {h h' : Heap} {x : Addr} (X : K.In h) (hx : K.lookup x = none) (k : ∀ b o, b ≠ x → h.get? b = some o → h'.get? b = some o) : K.In h' := fun a o e =>
  k a o (fun z => by rw [z, hx] at e; cases e) (X a o e)
theorem bad_init (T : BadTxt prog K mg C fI) {x t0 : Addr} {v : Value} (X : K.In s.heap) (hlim : s.heap.NoLimit) (G : s.heap.Ns mainGlobals mg) (B : s.heap.Ns builtinsNs mb) (hmb : mb "super" = some (.type "super")) (hx : s.heap.get? x = some (excO C t0)) (hnx : K.lookup x = none)
    (hroom : A.depth < recursionLimit)
    (hq : ∀ h' tk dx t1, InitEnd s.heap h' x C dx t1 v → R (.ok (.ret .none)) { s with heap := h', toks := tk }) :
    codeAny (model prog w) A (.call (.ref fI) ⟨[.ref x, v], []⟩) R s := by
  obtain ⟨oc, cl, ccl, od, cld, cdd, doc, pm, an, cda, cc, ct, osl, csl, ccs, vs, file, tf, p1, p2, r1, r2, r3, r4, r5, r6, q1, q2, q3, q4, ho, hcd, hcode, hvs, hfile, hcell, hev⟩ := T.fn
  obtain ⟨nm, q, N, bs, bm, sn, sub, ab, col, dd, k0, k1, k2, k3, k5, hC, hbm⟩ := T.cls
  have hcl : clsIn K C = some { name := nm, bases := bs, mro := .ref C :: bm, ns := N, qualname := q, hasDict := true, slotNames := sn, subclasses := sub, abstract := ab, collection := col, hasDel := false } := by unfold clsIn; rw [hC] <;> rfl
  have hcell0 : ∀ y ∈ iS.names, y.2 ≠ .cell := by decide
  have hloc0 : ∀ y ∈ [(PySem.Str.ofString "self", Value.ref x), (PySem.Str.ofString "place", v)], iS.names.lookup y.1 = some .local := by
    intro y hy
    rcases List.mem_cons.mp hy with rfl | hy
    · exact (by decide : iS.names.lookup (PySem.Str.ofString "self") = some .local)
    · rcases List.mem_cons.mp hy with rfl | hy
      · exact (by decide : iS.names.lookup (PySem.Str.ofString "place") = some .local)
      · cases hy
  refine ks_codeAny_call_defAt (fd := ksFn "__init__" "BadText.__init__" (iA p1 p2) (iB r1 r2 r3 r4 r5 r6 q1 q2 q3 q4) iS .none .none doc pm an (.ref cda) ct cc) (binds := [("self", .ref x), ("place", v)]) hroom (X _ _ ho) rfl hlim (codeRec_of X hcd) rfl (BindsTo.of_eq (by first | rfl | with_unfolding_all rfl)) hcell0 hloc0 (fun h₁ hn k => ?_)
  have hxL : s.heap.objs.size ≠ x := Nat.ne_of_gt (Heap.lt_size hx)
  have X₁ : K.In h₁ := X.keeps k
  have hx₁ := k _ _ hx
  obtain ⟨pl, hev⟩ := hev (bEnv K s.heap.objs.size fI cda cc)
  show _root_.PySem.wpAt (model prog w) (A.deeper (bEnv K s.heap.objs.size fI cda cc)) (.func (iB r1 r2 r3 r4 r5 r6 q1 q2 q3 q4) (bEnv K s.heap.objs.size fI cda cc)) (execs (iB r1 r2 r3 r4 r5 r6 q1 q2 q3 q4) (bEnv K s.heap.objs.size fI cda cc)) _ _ _
  refine ks_wpAt_execs_cons (ks_wpAt_Expr_any (ks_wpAt_MethodCall (pl := pl) ?_ hev))
  have hks : (bEnv K s.heap.objs.size fI cda cc).kindOf "super" = some .globalImplicit := by first | rfl | decide
  have hkc : (bEnv K s.heap.objs.size fI cda cc).kindOf "__class__" = some .free := by first | rfl | decide
  have hkself : (bEnv K s.heap.objs.size fI cda cc).kindOf "self" = some .local := by first | rfl | decide
  have hkplace : (bEnv K s.heap.objs.size fI cda cc).kindOf "place" = some .local := by first | rfl | decide
  have hself : (fun y => List.lookup y [((PySem.Str.ofString "self" : Str), Value.ref x), (PySem.Str.ofString "place", v)].reverse) (PySem.Str.ofString "self") = some (.ref x) := by first | rfl | (simp [List.lookup]; rfl)
  have hplace : (fun y => List.lookup y [((PySem.Str.ofString "self" : Str), Value.ref x), (PySem.Str.ofString "place", v)].reverse) (PySem.Str.ofString "place") = some v := by first | rfl | (simp [List.lookup]; done) | (simp [List.lookup]; rfl)
  refine ks_wpAt_super_base (f := fI) (cc := cda) (ar := { arg := "self", annotation := none, pos := p1 }) hks hkc (by decide) rfl (X₁ _ _ ho) rfl rfl rfl (X₁ _ _ hcode) rfl hvs hfile T.top ?_
  refine ks_loadName_global rfl hks (loadGlobal_builtin (env := bEnv K s.heap.objs.size fI cda cc) (G.keeps k) T.nS (B.keeps k) hmb ⟨rfl, ?_⟩)
  refine wpAny_loadName_free rfl hkc rfl ⟨_, X₁ _ _ hcell, rfl⟩ ?_
  refine wpAny_loadName_local rfl hkself hn hself ?_
  refine ks_wpAny_isType_cls (X₁ _ _ hC) rfl ⟨rfl, ?_⟩
  refine ks_wpAny_call_super (X₁ _ _ hC) rfl hx₁ rfl (fun c e => by cases e) (looks_mroIn X₁ T.slf) (fun h₂ e₂ k₂ => ?_)
  have X₂ : K.In h₂ := X₁.keeps k₂
  have hx₂ := k₂ _ _ hx₁
  have hI₂ : InstAt h₂ x (excO C t0) C none := ⟨hx₂, rfl, rfl, trivial⟩
  have hIs : Looks (model prog w) h₂ (isInstance (.ref x) (.type "ValueError")) true := hI₂.type.andThen (looks_subIn X₂ T.veC)
  have hf : alongIn K "__init__" (((Value.ref C :: bm).dropWhile (· != .ref C)).drop 1) = some (some (.builtin "ValueError.__init__")) := by
    have z := T.sup
    unfold ks_superIn at z
    rw [hcl] at z
    exact z
  refine kxs_getMethod kxs_ValueError e₂ (looks_opaque X₂ T.opq) (l₀ := .ref C :: bm) (fun A Q E s k q => wpAny_bind ((looks_clsIn X₂ hcl) A _ E s k (wpAny_pure q))) rfl X₂ hf hIs (ks_ne X₂ hI₂ hcl) (by decide) ?_
  have hu₃ : (h₂.push (kxs_mw "ValueError.__init__" x)).get? h₂.objs.size = some (kxs_mw "ValueError.__init__" x) := Heap.get?_push_at rfl rfl
  have k₃ : ∀ b o, h₂.get? b = some o → (h₂.push (kxs_mw "ValueError.__init__" x)).get? b = some o := fun b o e => Heap.get?_push_of_some _ e
  have n₃ := (hn.keeps k₂).keeps k₃
  refine kxs_callWith (i := "ValueError.__init__") (x := x) rfl (evalArgs_plain (spliced_more (wpAny_Name (wpAny_loadName_local rfl hkplace n₃ hplace (spliced_none ⟨hu₃, ?_⟩)) (by decide)) rfl))
  refine mw_call (t0 := t0) (k₃ _ _ (k₂ _ _ (X₁ _ _ hC))) hu₃ (k₃ _ _ hx₂) (by rw [sizeLine_eq]; exact (by decide : 1 ≤ 16777216)) (fun t' h₄ k₄ e₄ => ?_)
  have n₄ := ns_but n₃ hxL k₄
  have X₄ : K.In h₄ := kept_but ((X₂.keeps k₃)) hnx k₄
  refine wpAt_of_wpAny (wpAny_execs_cons (plainObj_wpAny_Assign_Attribute ?_))
  refine wpAny_Name (wpAny_loadName_local rfl hkplace n₄ hplace (wpAny_Name (wpAny_loadName_local rfl hkself n₄ hself ?_) (by decide))) (by decide)
  refine set_plain X₄ (ox := excO C t') (od := none) ⟨e₄, rfl, rfl, trivial⟩ T.sa ?_
  refine exc_osa X₄ e₄ hcl (show refsVE (.ref C :: bm) = true from hbm) rfl T.noN (fun h₅ tk₅ dx k₅ dn dne hx₅ hn₅ => ?_)
  refine wpAny_execs_nil (hq h₅ tk₅ dx t' ⟨fun b o hb e => k₅ b o hb (k₄ b o hb (k₃ _ _ (k₂ _ _ (k b o e)))), hx₅, Nat.le_of_lt (Nat.lt_of_lt_of_le n₄.lt dn), dne, hn₅⟩)
theorem one_size (v : Value) : [v].length ≤ sizeLine := by
  rw [sizeLine_eq]
  exact (by decide : 1 ≤ 16777216)
theorem bad_made (T : BadTxt prog K mg C fI) {v : Value} (X : K.In s.heap) (hlim : s.heap.NoLimit) (G : s.heap.Ns mainGlobals mg) (B : s.heap.Ns builtinsNs mb) (hmb : mb "super" = some (.type "super")) (hroom : A.depth + 1 < recursionLimit)
    (hq : ∀ h' tk e d, OwnMade s.heap h' e C d v → R (.ok (.ret (.ref e))) { s with heap := h', toks := tk }) :
    codeAny (model prog w) A (.call (.ref C) ⟨[v], []⟩) R s := by
  obtain ⟨nm, q, N, bs, bm, sn, sub, ab, col, dd, k0, k1, k2, k3, k5, hC, hbm⟩ := T.cls
  obtain ⟨hp, g, dr, tk, os⟩ := s
  have k : ∀ b o, hp.get? b = some o → ((hp.push (kdv_tup [v])).push (excO C hp.objs.size)).get? b = some o := fun b o e => Heap.get?_push_of_some _ (Heap.get?_push_of_some _ e)
  have hget : ((hp.push (kdv_tup [v])).push (excO C hp.objs.size)).get? (hp.objs.size + 1) = some (excO C hp.objs.size) := by heap_get
  have hnx : K.lookup (hp.objs.size + 1) = none := by
    cases e : K.lookup (hp.objs.size + 1) with
    | none => rfl
    | some o =>
      have z : hp.get? (hp.objs.size + 1) = some o := X _ _ e
      exact absurd (Nat.lt_of_succ_lt (Heap.lt_size z)) (Nat.lt_irrefl _)
  refine call_own F.excBase_ValueError (fun X => refsVE_contains X bm hbm) (X _ _ hC) (looks_findIn X T.iC) (fun self => bind_fn X self T.tC) (one_size v) ?_
  refine bad_init (s := ⟨(hp.push (kdv_tup [v])).push (excO C hp.objs.size), g, dr, tk, os⟩) T (X.keeps k) (hlim.keeps k) (G.keeps k) (B.keeps k) hmb hget hnx ?_ fun h' tk' dx t1 ⟨k', hx, dn, dne, hns⟩ => ?_
  · show A.depth + 1 < recursionLimit
    exact hroom
  · have old : ∀ b o, hp.get? b = some o → h'.get? b = some o := fun b o e => k' b o (Nat.ne_of_lt (Nat.lt_succ_of_lt (Heap.lt_size e))) (k b o e)
    have z : hp.objs.size + 1 + 1 ≤ dx := by
      first
        | (simpa only [Heap.size_push] using dn)
        | exact dn
        | (have q := dn; rw [Heap.size_push, Heap.size_push] at q; exact q)
    exact ⟨rfl, hq h' tk' (hp.objs.size + 1) dx ⟨old, Nat.le_succ _, ⟨_, _, hx, rfl, rfl, rfl, rfl⟩, Nat.le_trans (Nat.le_trans (Nat.le_succ _) (Nat.le_succ _)) z, dne, hns⟩⟩
end
end BadX
end PySem
namespace L2
open PySem PySem.Spec PyProof.Rows
theorem relO_bad {v : V} {v' : Value} (r : RelV v v') (f : Str) : RelO (List.lookup f [(("place" : Str), v)]) (if f = "place" then some v' else none) := by
  by_cases hw : f = "place"
  · subst hw
    rw [if_pos rfl]
    have q : List.lookup ("place" : Str) [(("place" : Str), v)] = some v := by simp [List.lookup]
    rw [q]
    exact r
  · rw [if_neg hw]
    have qw : (f == ("place" : Str)) = false := by simpa using hw
    have q2 : List.lookup f [(("place" : Str), v)] = none := by simp [List.lookup, qw]
    rw [q2]
    trivial
section
variable {X : Cx} {C fI : Addr}
/-- BadText(e) -/
def tMkBad (C : Addr) (ta : TA) : St → Hp → XK → Prop := fun σ H Q => ta σ H fun vs H1 => ∃ v, vs = [v] ∧ ∀ d, H1 d = none → Q (.ref C) (some d) (upd H1 d (.xd [(("place" : Str), v)]))
theorem pmk_BadText {a : Expr} {ta : TA} {p pos : Pos} {k : Nat} (T : PySem.BadX.BadTxt X.prog X.K X.mg C fI) (hr : Room k X.A) (ha : PA X [a] ta) (hg : Gl X "BadText" := by rfl)
    (he : starEach (a :: []) X.env = (false, eval a X.env) :: starEach [] X.env := by rfl) (hpl : (backTo pos (starEach [] X.env)).any (·.1) = false := by rfl) :
    PMk X (.Call (.Name "BadText" p) [a] [] pos) (tMkBad C ta) := by
  intro pins s σ H Q I h
  refine wpAny_Call_Name_kw (ld_glob I hg T.gC ?_)
  refine PySem.W.callWith_K (h₀ := X.base) I.ok.mod.kin T.kC (thn (ha.run pos pins s σ H _ I h) fun us s1 hh => ?_) he hpl
  obtain ⟨vs, H1, I1, r1, v, ev, q1⟩ := hh
  subst ev
  refine ⟨I1.kIn, ?_⟩
  cases r1 with
  | cons rv rn =>
    rename_i v' us'
    cases rn
    show wpAny _ _ (call (.ref C) [v']) _ _ _
    have hlim := I1.nolimit
    have G1 := I1.mod.glob.keeps I1.bk
    obtain ⟨mb, hb1, hb2⟩ := I1.mod.blt
    have B1 := hb1.keeps I1.bk
    have hmb : mb "super" = some (.type "super") := (hb2 "super" (by decide)).trans (by decide +kernel)
    obtain ⟨hp, g, dr, tk, os⟩ := s1
    refine wpAny_call (PySem.BadX.bad_made T I1.kIn hlim G1 B1 hmb (by have := hr.dp; omega) fun h' tk' e d M => ?_)
    show MkP X pins σ Q (.ref e) ⟨h', g, dr, tk', os⟩
    obtain ⟨oe, fv, hoe, hc, hd, hdat, h1⟩ := M.obj
    have hns := M.ns
    obtain ⟨G', g1, g2⟩ := restrict h' fun b => decide (b ≠ e)
    have gk : ∀ b, b ≠ e → G'.get? b = h'.get? b := fun b hb => g1 b (decide_eq_true hb)
    have ge : G'.get? e = none := g2 e (by simp)
    have old : ∀ b o, hp.get? b = some o → G'.get? b = some o := fun b o q => (gk b (Nat.ne_of_lt (Nat.lt_of_lt_of_le (Heap.lt_size q) M.new))).trans (M.keep b o q)
    have ob : ObjOk X.prog X.w (upd H1 d (.xd [(("place" : Str), v)])) G' d (.xd [(("place" : Str), v)]) :=
      ⟨_, hns.at (fun o q => (gk d M.dne).trans q), fun f => relO_bad rv f⟩
    have J : Inv X pins σ (upd H1 d (.xd [(("place" : Str), v)])) ⟨G', g, dr, tk', os⟩ := I1.laid (t' := tk') old M.dbig ob
    refine ⟨e, oe, fv, ⟨G', g, dr, tk', os⟩, _, .ref C, some d, rfl, J, fun b o q => ?_, ge, hoe, ⟨hc, hd⟩, hdat, h1, ?_, rfl, I1.bare, raises_own T.exC T.tyC, q1 d (I1.hok.fresh M.dbig)⟩
    · by_cases hb : b = e
      · have q' : G'.get? b = some o := q
        rw [hb, ge] at q'; cases q'
      · exact (gk b hb).symm.trans q
    · rw [upd_ne (Ne.symm M.dne)]
      exact I1.hok.fresh M.new
end
/-! ### except clauses, some of which bind a name -/
inductive HdsA (X : Cx) (Wout : WX) (D : Ends) : List ExceptHandler → WX → Prop
  | nil : HdsA X Wout D [] Wout
  | cons {x : Str} {c : Value} {ts : Addr → Value → Option Addr → TS} {b₀ : Stmt} {suite : List Stmt} {np pos' : Pos} {hds : List ExceptHandler} {W : WX} (hc : Names X x c)
      (hsu : ∀ (a : Addr) (oe : Obj) (cls : Value) (d : Option Addr) (pn : List (Addr × Obj)), Zc cls d oe → (∃ vs, oe.data = .fields vs) → PSs (X.suite a ((a, oe) :: pn)) (b₀ :: suite) (ts a cls d)) (r : HdsA X Wout D hds W) :
      HdsA X Wout D (.ExceptHandler (some (.Name x np)) none (b₀ :: suite) pos' :: hds) (fun cls d σ H => ∃ b, PySem.W.exmOne X.K cls c = some b ∧ (b = true → ∀ a, H a = none → ts a cls d D σ H) ∧ (b = false → W cls d σ H))
  | as_ {x n : Str} {i : Nat} {c : Value} {ts : Addr → Value → Option Addr → TS} {b₀ : Stmt} {suite : List Stmt} {np pos' : Pos} {hds : List ExceptHandler} {W : WX} (hN : X.N.Nodup) (hi : X.N[i]? = some n) (hln : X.env.kindOf n = some .local) (hc : Names X x c)
      (hsu : ∀ (a : Addr) (oe : Obj) (cls : Value) (d : Option Addr) (pn : List (Addr × Obj)), Zc cls d oe → (∃ vs, oe.data = .fields vs) → PSs (X.suite a ((a, oe) :: pn)) (b₀ :: suite) (ts a cls d)) (r : HdsA X Wout D hds W) :
      HdsA X Wout D (.ExceptHandler (some (.Name x np)) (some n) (b₀ :: suite) pos' :: hds) (wAs X.K c i ts W D)
section
variable {X : Cx} {body : List Stmt} {h₀ : ExceptHandler} {hds : List ExceptHandler} {pos : Pos} {tb : WX → TS} {Wout : WX} {WD : Ends → WX}
theorem ps_try_asmany (hs : X.stack = X.env :: X.outer) (hf : X.env.frame = some X.env.locals) (tk : Takes X Wout)
    (hb : ∀ (W : WX) (pn : List (Addr × Obj)) (xe : Value → Shared → Prop), Takes (X.tr pn xe) W → PassesOwn (model X.prog X.w) X.A X.env xe → PSs (X.tr pn xe) body (tb W))
    (hh : ∀ D, HdsA X Wout D (h₀ :: hds) (WD D)) : PS X (.Try body (h₀ :: hds) [] [] pos) (fun D σ H => tb (WD D) D σ H) := by
  refine ⟨fun pins s σ H D I h => ?_⟩
  have ok := I.ok
  have hfr : X.A.frames = some (X.env :: X.outer) := by rw [ok.frames, hs]
  refine wpAny_Try_except ?_
  refine wpAny_mono ((hb (WD D) (X.pn ++ pins) (fun e s₁ => wpAny (model X.prog X.w) X.A (noteFrame e X.env) (fun _ s₂ => wpAny (model X.prog X.w) X.A (setFlight e none) (fun _ s₃ =>
    wpAny (model X.prog X.w) X.A (handleBy e X.env (h₀ :: hds)) (SP X pins D) X.xe s₃) X.xe s₂) X.xe s₁) (fun u s' xx => ?_) PassesOwn.looking).run [] s σ H D (I.toTry _) h) (fun f s1 hsp => ?_) (fun e s1 he => he)
  · obtain ⟨a, B, sI, pins', σ', H', cls, d, rfl, J', nb, up, sky, na, os, ag, w⟩ := xx
    have J : Inv X pins σ' H' sI := J'.ofTry ok
    have sky' : Sky B (X.env :: X.outer) a (Zc cls d) X.env.locals s'.heap := by rw [← hs]; exact sky
    show wpAny (model X.prog X.w) X.A (noteFrame (.ref a) X.env) _ _ _
    refine Sky.land Zc.steady hfr hf sky' fun h3 fl3 up3 => ?_
    have J3 : Inv X pins σ' H' { s' with heap := h3 } := J.landed nb fl3.1 (up.trans up3) os ag
    obtain ⟨oe3, vs3, he3, hz3, hd3⟩ := fl3.there
    have notFr : ∀ {h : Heap} {o : Obj} {vs : Array Value}, h.FunFrames B (X.env :: X.outer) → h.get? a = some o → o.data = .fields vs → a ∉ frs (X.env :: X.outer) := fun {h o vs} ff e dd hm => by
      obtain ⟨_, o', e', hnf⟩ := ff.mem hm
      rw [e] at e'; cases e'
      exact hnf _ dd
    have nfr := notFr fl3.2.2.1 he3 hd3
    have nL : a ≠ X.env.locals := fun z => nfr (List.mem_filterMap.mpr ⟨X.env, List.mem_cons_self, by rw [hf, z]⟩)
    have nF : a ∉ X.fs := fun hm => by
      obtain ⟨e, he, q⟩ := List.mem_filterMap.mp hm
      exact nfr (List.mem_filterMap.mpr ⟨e, List.mem_cons_of_mem _ he, q⟩)
    have S3 := J3.suite he3 hd3 na nL nF
    have LT : PySem.W.Looks (model X.prog X.w) h3 (typeOf (.ref a)) cls := fun A Q E s k q => wpAny_typeOf_ref (k _ _ he3) (by rw [hz3.1]; exact q)
    have test : ∀ {x : Str} {np : Pos} {c : Value} {Q : Value → Shared → Prop} {E : Value → Shared → Prop}, Names X x c → Q c { s' with heap := h3 } → wpAny (model X.prog X.w) (X.A.mark (some (.ref a))) (eval (.Name x np) X.env) Q E { s' with heap := h3 } := fun {x np c Q E} hc q => by
      obtain ⟨hg, hdbg, hm | ⟨hm, hv, hnn⟩⟩ := hc
      · exact ld_glob (X := X.suite a ((a, oe3) :: (X.pn ++ pins))) S3 hg hm q hdbg
      · exact ld_blt (X := X.suite a ((a, oe3) :: (X.pn ++ pins))) S3 hg hm hv q hnn hdbg
    have go : ∀ {hds' : List ExceptHandler} {W' : WX}, HdsA X Wout D hds' W' → W' cls d σ' H' →
        wpAny (model X.prog X.w) X.A (handleBy (.ref a) X.env hds') (SP X pins D) X.xe { s' with heap := h3 } := by
      intro hds' W' hk
      induction hk with
      | nil =>
        intro w
        refine wpAny_handleBy_nil ?_
        obtain ⟨k1, k2, k3, oe, vs, T, oT, ts', he, hz, hd, h1, hr⟩ := id fl3
        unfold PySem.passOn
        refine wpAny_bind (wpAny_field he hd h1 ?_)
        rw [if_neg (show ¬ ((Value.ref T == Value.none) = true) from by simp)]
        have fin : wpAny (model X.prog X.w) X.A (setFlight (.ref a) X.env.frame) (fun _ s4 => wpAny (model X.prog X.w) X.A (throw (.ref a) : Sem Flow) (SP X pins D) X.xe s4) X.xe { s' with heap := h3 } := by
          rw [hf]
          refine HandSPX.setFlight_upZ fl3 fun h4 hh4 up4 => wpAny_throw (tk _ _ ?_)
          exact ⟨a, B, sI, pins, σ', H', cls, d, rfl, J, nb, (up.trans up3).trans up4, .inr (.inr (by rw [hs]; exact hh4)), na, os, ag, w⟩
        first
          | exact wpAny_bind (wpAny_pure (wpAny_bind fin))
          | exact wpAny_bind fin
      | @cons x c ts b₀ suite np pos' hds2 W2 hc hsu r ih =>
        intro w
        obtain ⟨b, hb1, hyes, hno⟩ := w
        refine wpAny_handleBy_cons (codeAny_handlers_test ?_) (by intro q; cases q)
        have LM := PySem.W.exm_one (M := model X.prog X.w) (J3.kIn) LT hb1
        refine test hc (LM.here ?_)
        cases b with
        | true =>
          refine codeAny_handlers_suite ?_
          refine HandSPX.lands_againZ fl3 fun h4 fl4 up4 => ?_
          have J4 : Inv X pins σ' H' { s' with heap := h4 } := J.landed nb fl4.1 ((up.trans up3).trans up4) os ag
          obtain ⟨oe4, vs4, he4, hz4, hd4⟩ := fl4.there
          have S4 := J4.suite he4 hd4 na nL nF
          refine wpAny_mono ((hsu a oe4 cls d (X.pn ++ pins) hz4 ⟨_, hd4⟩).run [] _ _ H' _ S4 (hyes rfl a na)) (fun f s6 hsp => ?_) (fun _ _ z => False.elim z)
          cases f with
          | next =>
            obtain ⟨σ6, H6, S6, q6⟩ := hsp
            exact ⟨_, _, S6.unsuite ok, q6⟩
          | brk =>
            obtain ⟨σ6, H6, S6, q6⟩ := hsp
            exact ⟨_, _, S6.unsuite ok, q6⟩
          | cont =>
            obtain ⟨σ6, H6, S6, q6⟩ := hsp
            exact ⟨_, _, S6.unsuite ok, q6⟩
          | ret u =>
            obtain ⟨v6, σ6, H6, S6, r6, q6⟩ := hsp
            exact ⟨_, _, _, S6.unsuite ok, r6, q6⟩
        | false =>
          show wpAny _ X.A (handleBy (.ref a) X.env hds2) _ _ _
          exact ih (hno rfl)
      | @as_ x n i c ts b₀ suite np pos' hds2 W2 hN hi hln hc hsu r ih =>
        intro w
        obtain ⟨b, hb1, hyes, hno⟩ := w
        have hloc : Loc X.env.scope n := .inl hln
        refine wpAny_handleBy_cons (codeAny_handlers_test ?_) (by intro q; cases q)
        have LM := PySem.W.exm_one (M := model X.prog X.w) (J3.kIn) LT hb1
        refine test hc (LM.here ?_)
        cases b with
        | true =>
          refine codeAny_handlers_suite_as ?_
          refine HandSPX.lands_againZ fl3 fun h4 fl4 up4 => ?_
          have J4 : Inv X pins σ' H' { s' with heap := h4 } := J.landed nb fl4.1 ((up.trans up3).trans up4) os ag
          obtain ⟨oe4, vs4, he4, hz4, hd4⟩ := fl4.there
          have S4 := J4.suite he4 hd4 na nL nF
          refine store_ok (X := X.suite a ((a, oe4) :: (X.pn ++ pins))) (v := .ref a) S4 hN hi hloc rfl (fun s5 S5 => ?_) (.inr hln)
          refine wpAny_mono ((hsu a oe4 cls d (X.pn ++ pins) hz4 ⟨_, hd4⟩).run [] s5 _ H' _ S5 (hyes rfl a na)) (fun f s6 hsp => ?_) (fun _ _ z => False.elim z)
          have end_ : ∀ {σ6 : St} {H6 : Hp} {Q : Shared → Prop}, Inv (X.suite a ((a, oe4) :: (X.pn ++ pins))) [] σ6 H6 s6 → (∀ s7, Inv X pins (σ6.set i none) H6 s7 → Q s7) →
              wpAny (model X.prog X.w) X.A (do bindName X.env n .none; unbindBehindTheSuite X.env n pos') (fun _ s7 => Q s7) X.xe s6 := fun {σ6 H6 Q} S6 hq => gone_ok (S6.unsuite ok) hN hi hln hq
          cases f with
          | next =>
            obtain ⟨σ6, H6, S6, q6⟩ := hsp
            exact end_ S6 fun s7 J7 => ⟨_, _, J7, q6⟩
          | brk =>
            obtain ⟨σ6, H6, S6, q6⟩ := hsp
            exact end_ S6 fun s7 J7 => ⟨_, _, J7, q6⟩
          | cont =>
            obtain ⟨σ6, H6, S6, q6⟩ := hsp
            exact end_ S6 fun s7 J7 => ⟨_, _, J7, q6⟩
          | ret u =>
            obtain ⟨v6, σ6, H6, S6, r6, q6⟩ := hsp
            exact end_ S6 fun s7 J7 => ⟨_, _, _, J7, r6, q6⟩
        | false =>
          show wpAny _ X.A (handleBy (.ref a) X.env hds2) _ _ _
          exact ih (hno rfl)
    exact go (hh D) w
  · cases f with
    | next =>
      obtain ⟨σ', H', J', q⟩ := hsp
      exact wpAny_execs_nil ⟨σ', H', J'.ofTry ok, q⟩
    | brk =>
      obtain ⟨σ', H', J', q⟩ := hsp
      exact ⟨σ', H', J'.ofTry ok, q⟩
    | cont =>
      obtain ⟨σ', H', J', q⟩ := hsp
      exact ⟨σ', H', J'.ofTry ok, q⟩
    | ret u =>
      obtain ⟨v, σ', H', J', r, q⟩ := hsp
      exact ⟨v, σ', H', J'.ofTry ok, r, q⟩
end
end L2
set_option Elab.async false
set_option linter.all false
set_option maxRecDepth 100000
set_option maxHeartbeats 4000000
/-! a head's hook that also looks at defs with a free cell (super() in an own exception's __init__) and at the interpreter's statics -/
namespace HB
open PySem PySem.Spec PyProof.Rows L2 He
abbrev FnI : Type := Option (Str × Str × Arguments × FuncBody × Scope × Addr × List Str × Addr)
def fnI (K : PySem.W.Frag) (p : Str × Option Str) : FnI := match K.lookup (fAd K p) with
  | some ⟨_, _, .func fd, _⟩ => some (fd.name, fd.qualname, fd.params, fd.body, fd.scope, fd.globals, fd.closure.map (·.1), fd.builtins)
  | _ => none
abbrev Al : Type := AlD × Bool × List FnI
def asB (g : Addr → Option Obj) (n : Nat) : List Addr := asD g n ++ [cStatics]
def obsB (n : Nat) (fa : List Fa) (fn : List DefD) (ex : PySem.W.Frag → Bool) (ps : List (Str × Option Str)) (g : Addr → Option Obj) : Al :=
  (obsD fa fn (frG g (asB g n)), ex (frG g (asB g n)), ps.map (fnI (frG g (asB g n))))
structure SaysB (fa : List Fa) (fn : List DefD) (ex : PySem.W.Frag → Bool) (ps : List (Str × Option Str)) (vs : List FnI) (K : PySem.W.Frag) : Prop where
  d : SaysD fa fn K
  more : ex K = true
  fi : ps.map (fnI K) = vs
def hookB (n : Nat) (fa : List Fa) (fn : List DefD) (ex : PySem.W.Frag → Bool) (ps : List (Str × Option Str)) (vs : List FnI) : PySem.W.Hook where
  α := Al
  obs := fun s => obsB n fa fn ex ps s.heap.get?
  val := fun _ => (valD fn, true, vs)
  says := fun _ h => ∃ K : PySem.W.Frag, K.In h ∧ SaysB fa fn ex ps vs K
  of := fun _ _ e => ⟨_, frG_in, congrArg (fun z : Al => z.1) e, congrArg (fun z : Al => z.2.1) e, congrArg (fun z : Al => z.2.2) e⟩
  keeps := fun _ _ _ ⟨K, hK, c⟩ k => ⟨K, PySem.W.Frag.In.keeps hK k, c⟩
theorem obsB_eq {n : Nat} {fa : List Fa} {fn : List DefD} {ex : PySem.W.Frag → Bool} {ps : List (Str × Option Str)} {vs : List FnI} {g : Addr → Option Obj} {s : Shared} (h : ∀ a, g a = s.heap.get? a) : obsB n fa fn ex ps g = (hookB n fa fn ex ps vs).obs s := by
  have e : g = s.heap.get? := funext h
  rw [e] <;> rfl
/-! ### the facts of an own exception with super().__init__(place) -/
def clsB (K : PySem.W.Frag) (C : Addr) : Bool := match K.lookup C with
  | some ⟨.type "type", _, .cls cd, sl⟩ => (match cd.mro, sl.toList with
    | .ref C' :: bm, [_, _, _, _, some (.builtin n), _] => C' == C && n == "ValueError.__new__" && !cd.hasDel && cd.hasDict && PySem.HandSPX.refsVE bm
    | _, _ => false)
  | _ => false
theorem clsB_ok {K : PySem.W.Frag} {C : Addr} (q : clsB K C = true) : ∃ nm q N bs bm sn sub ab col dd k0 k1 k2 k3 k5, K.lookup C = some (excClassObj nm q C N bs bm true sn sub ab col dd k0 k1 k2 k3 k5 "ValueError.__new__") ∧ PySem.HandSPX.refsVE bm = true := by
  unfold clsB at q
  split at q
  · rename_i dd cd sl ho
    split at q
    · rename_i C' bm k0 k1 k2 k3 n k5 hm hs
      simp only [Bool.and_eq_true, beq_iff_eq, Bool.not_eq_true'] at q
      obtain ⟨⟨⟨⟨rfl, rfl⟩, hdel⟩, hd⟩, hr⟩ := q
      obtain ⟨nm, bs, mro, ns, qn, hd', sn, sub, ab, col, del⟩ := cd
      dsimp only at hm hdel hd
      subst hm hdel hd
      have hsl : sl = #[k0, k1, k2, k3, some (.builtin "ValueError.__new__"), k5] := by
        obtain ⟨l⟩ := sl
        simp only at hs
        rw [hs]
      subst hsl
      exact ⟨nm, qn, ns, bs, bm, sn, sub, ab, col, dd, k0, k1, k2, k3, k5, ho, hr⟩
    · cases q
  · cases q
/-- the def's code object tells the file; its one cell holds the class -/
def iniB (file : Str) (q : Str) (K : PySem.W.Frag) (C fI : Addr) : Bool := match K.lookup fI with
  | some ⟨_, _, .func fd, _⟩ => (match fd.code, fd.defaults, fd.kwdefaults, fd.closure with
    | .ref cda, .none, .none, [(_, cc)] => PySem.W.codeIn K (.ref cda) q && (match K.lookup cda with
        | some ⟨_, _, .fields vs, _⟩ => (match (vs[2]? : Option Value) with
          | some (.str f _) => file == f
          | _ => false)
        | _ => false) && (match K.lookup cc with
        | some ⟨_, _, .cell (some (.ref D)), _⟩ => D == C
        | _ => false)
    | _, _, _, _ => false)
  | _ => false
def badB (file : Str) (K : PySem.W.Frag) (C fI : Addr) : Bool := clsB K C && decide (PySem.W.findIn K (.ref C) "__setattr__" = some (some (.builtin "object.__setattr__"))) && decide (PySem.W.findIn K (.ref C) "place" = some none) &&
  decide (PySem.W.findIn K (.ref C) "__init__" = some (some (.ref fI))) && decide (PySem.W.typeIn K (.ref fI) = some (.type "function")) && PySem.W.keepIn K (.ref C) && decide (PySem.W.subIn K (.ref C) (.type "BaseException") = some true) &&
  decide (PySem.W.subIn K (.ref C) (.type "ValueError") = some true) && decide (PySem.W.mroIn K C (.ref C) = some true) && decide (PySem.W.ks_superIn K C C "__init__" = some (some (.builtin "ValueError.__init__"))) &&
  decide (PySem.W.nsIn K cStatics "thirdparty.any" = some none) && decide (PySem.W.typeIn K (.ref C) = some (.type "type")) && iniB file "BadText.__init__" K C fI
theorem badB_ok {P : Program} {K : PySem.W.Frag} {mg : Str → Option Value} {a1 a2 : Pos} {r1 r2 r3 r4 r5 r6 q1 q2 q3 q4 : Pos} (h : badB P.main.file K (ga K "BadText") (fAd K ("BadText", some "__init__")) = true) (gC : mg "BadText" = some (.ref (ga K "BadText"))) (nS : mg "super" = none)
    (top : (P.main.scope.names.lookup ("super" : Str)).isSome = false)
    (e : fnI K ("BadText", some "__init__") = (some (("__init__" : Str), ("BadText.__init__" : Str), PySem.BadX.iA a1 a2, FuncBody.stmts (PySem.BadX.iB r1 r2 r3 r4 r5 r6 q1 q2 q3 q4), PySem.BadX.iS, mainGlobals, [("__class__" : Str)], builtinsNs) : FnI))
    (ev : ∀ env : Env, ∃ pl : Sem Bool, eval (.Call (.Attribute (.Call (.Name "super" r1) [] [] r2) "__init__" r3) [.Name "place" r4] [] r5) env = (do
      let ov ← attributeBase (.Call (.Name "super" r1) [] [] r2) "__init__" env (eval (.Call (.Name "super" r1) [] [] r2) env)
      standAt r3.atName
      let (f, first) ← holding [ov] (getMethod ov "__init__" pl)
      callWith r5 f first (backTo r5 (starEach [.Name "place" r4] env)) [])) :
    PySem.BadX.BadTxt P K mg (ga K "BadText") (fAd K ("BadText", some "__init__")) := by
  unfold badB at h
  simp only [Bool.and_eq_true, decide_eq_true_eq] at h
  obtain ⟨⟨⟨⟨⟨⟨⟨⟨⟨⟨⟨⟨h1, h2⟩, h3⟩, h4⟩, h5⟩, h6⟩, h7⟩, h8⟩, h9⟩, h10⟩, h11⟩, h12⟩, h13⟩ := h
  refine ⟨gC, nS, clsB_ok h1, h2, h3, h4, h5, h6, h7, h8, h9, h10, h11, h12, top, ?_⟩
  unfold fnI at e
  unfold iniB at h13
  cases q : K.lookup (fAd K ("BadText", some "__init__")) with
  | none =>
    rw [q] at e
    cases e
  | some o =>
    obtain ⟨oc, od, dt, osl⟩ := o
    rw [q] at e h13
    cases dt with
    | func fd =>
      obtain ⟨n1, n2, n3, n4, n5, n6, n7, n8, n9, n10, n11, n12, n13, n14, n15⟩ := fd
      have e2 : (some (n1, n2, n3, n4, n5, n6, n7.map (·.1), n15) : FnI) = (some (("__init__" : Str), ("BadText.__init__" : Str), PySem.BadX.iA a1 a2, FuncBody.stmts (PySem.BadX.iB r1 r2 r3 r4 r5 r6 q1 q2 q3 q4), PySem.BadX.iS, mainGlobals, [("__class__" : Str)], builtinsNs) : FnI) := e
      simp only [Option.some.injEq, Prod.mk.injEq] at e2
      obtain ⟨g1, g2, g3, g4, g5, g6, g7, g8⟩ := e2
      subst g1 g2 g3 g4 g5 g6 g8
      obtain ⟨cc, rfl⟩ : ∃ cc, n7 = [(("__class__" : Str), cc)] := by
        cases n7 with
        | nil => cases g7
        | cons p l =>
          obtain ⟨nm, cc⟩ := p
          have z : nm :: l.map (·.1) = [("__class__" : Str)] := g7
          obtain ⟨z1, z2⟩ := List.cons.inj z
          subst z1
          have z3 : l = [] := by
            cases l with
            | nil => rfl
            | cons _ _ => cases z2
          subst z3
          exact ⟨cc, rfl⟩
      dsimp only at h13
      cases n13 with
      | ref cda =>
        cases n8 with
        | none =>
          cases n9 with
          | none =>
            simp only [Bool.and_eq_true] at h13
            obtain ⟨⟨k1, k2⟩, k3⟩ := h13
            split at k2
            · rename_i ccl cdd vs ccs hcda
              split at k2
              · rename_i f tf hf
                split at k3
                · rename_i cl cld D csl hcc
                  have eD : D = ga K "BadText" := of_decide_eq_true (by simpa using k3)
                  subst eD
                  exact ⟨oc, cl, ccl, od, cld, cdd, n10, n11, n12, cda, cc, n14, osl, csl, ccs, vs, f, tf, a1, a2, r1, r2, r3, r4, r5, r6, q1, q2, q3, q4, rfl, k1, hcda, hf, k2, hcc, ev⟩
                · cases k3
              · cases k2
            · cases k2
          | _ => cases h13
        | _ => cases h13
      | _ => cases h13
    | _ => cases e
section
variable {X : Cx} {C : Addr} {bmB : List Value} {B newId initId : String}
/-- X() -/
theorem pmk_own0 {x : Str} {p pos : Pos} (F : ExcBaseFacts B newId initId bmB) (q : PySem.W.excIn X.K C bmB newId = true) (gC : X.mg x = some (.ref C)) (kC : PySem.W.keepIn X.K (.ref C) = true) (r : Raises X (.ref C)) (hg : Gl X x)
    (hdb : (x == ("__debug__" : Str)) = false := by decide) : PMk X (.Call (.Name x p) [] [] pos) (fun _ H Q => Q (.ref C) none H) := by
  intro pins s σ H Q I h
  refine wpAny_Call_Name_kw (ld_glob I hg gC ?_ hdb)
  refine PySem.W.callWith_K0 I.kIn kC ?_
  show wpAny _ _ (call (.ref C) []) _ _ _
  obtain ⟨bm, N, nm, qn, bs, hdct, sn, sub, ab, col, dd, k0, k1, k2, k3, k5, mN, hC, hN, hni, T⟩ := exc_obj I.kIn q
  refine wpAny_call_exc_subT F T hC hN hni (fun h' e hm => ?_) (Nat.zero_le _)
  exact mk_of I hm r h (I.hok.gone hm.new)
theorem pmk_x {x : Str} {p pos : Pos} (f : PySem.W.excIn X.K C He.veBase "ValueError.__new__" = true ∧ PySem.W.keepIn X.K (.ref C) = true ∧ PySem.W.subIn X.K (.ref C) (.type "BaseException") = some true ∧ PySem.W.typeIn X.K (.ref C) = some (.type "type")) (gC : X.mg x = some (.ref C)) (hg : Gl X x := by rfl)
    (hdb : (x == ("__debug__" : Str)) = false := by decide) : PMk X (.Call (.Name x p) [] [] pos) (fun _ H Q => Q (.ref C) none H) :=
  pmk_own0 PySem.F.excBase_ValueError f.1 gC f.2.1 (raises_own f.2.2.1 f.2.2.2) hg hdb
end
/-! ### the errors' classes: what except clauses and isinstance ask -/
structure Errs (K : PySem.W.Frag) : Prop where
  xf : XfC K (ga K "BadText")
  noPl : PySem.W.findIn K (.ref (ga K "BadText")) "place" = some none
  bb : PySem.W.exmOne K (.ref (ga K "BadText")) (.ref (ga K "BadText")) = some true
  nn : PySem.W.exmOne K (.ref (ga K "NoThing")) (.ref (ga K "NoThing")) = some true
  ec : ExcC K (ga K "NoThing")
  nm : PySem.W.kitOne K (.ref (ga K "NoThing")) (.ref (ga K "MissError")) = some true
def errB (K : PySem.W.Frag) : Bool := xfB K (ga K "BadText") && decide (PySem.W.findIn K (.ref (ga K "BadText")) "place" = some none) && decide (PySem.W.exmOne K (.ref (ga K "BadText")) (.ref (ga K "BadText")) = some true) &&
  decide (PySem.W.exmOne K (.ref (ga K "NoThing")) (.ref (ga K "NoThing")) = some true) && decide (PySem.W.kitOne K (.ref (ga K "NoThing")) (.ref (ga K "MissError")) = some true) &&
  xfB K (ga K "NoThing") && decide (PySem.W.findIn K (.ref (ga K "NoThing")) "__class__" = some (some (.builtin "object.__class__"))) && decide (PySem.W.specialIn K (.builtin "object.__class__") "__get__" = some (some (.builtin "getset_descriptor.__get__"))) &&
  decide (PySem.W.takesIn K (.builtin "object.__class__") = some true) && decide (PySem.W.mroIn K (ga K "NoThing") (.type "object") = some true)
theorem errB_ok {K : PySem.W.Frag} (h : errB K = true) : Errs K := by
  unfold errB at h
  simp only [Bool.and_eq_true, decide_eq_true_eq] at h
  obtain ⟨⟨⟨⟨⟨⟨⟨⟨⟨h1, h2⟩, h3⟩, h4⟩, h5⟩, h6⟩, h7⟩, h8⟩, h9⟩, h10⟩ := h
  have x := xfB_ok h6
  exact ⟨xfB_ok h1, h2, h3, h4, ⟨x.ga, x.gg, x.exC, x.hdC, h7, h8, h9, h10⟩, h5⟩
end HB
set_option Elab.async false
set_option linter.all false
set_option maxRecDepth 100000
set_option maxHeartbeats 4000000
/-! further operators: t + u, text * k, text[::-1], str(int) -/
namespace KB
open PySem PySem.Spec PyProof.Rows L2
open SX (S)
theorem S_of (z : Str) : z = S z.cps.toList := by
  obtain ⟨c⟩ := z
  rfl
section
variable {X : Cx}
def rAddT (K : PySem.W.Frag) : R2 := rCatA K
theorem op_addT : OpR X (binaryOp .Add) (rAddT X.K) := op_catA
theorem r_addT {K : PySem.W.Frag} {H : Hp} {Q : VK} {a b : Addr} {xs ys : List V} (ha : H a = some (.tup xs)) (hb : H b = some (.tup ys)) (hy : ys ≠ []) (hl : xs.length + ys.length ≤ 1000000) (q : ∀ p H', Ex H H' → H' p = some (.tup (xs ++ ys)) → Q (.ref p) H') : rAddT K (.ref a) (.ref b) H Q :=
  ⟨a, b, xs, ys, rfl, rfl, SqT.of ha, SqT.of hb, len1M hl, fun e => q _ _ (fun _ _ h => h) (by rw [e, hb]; rfl), fun _ e => absurd e hy, fun _ _ p hp => q _ _ (Evl.Ex.new hp) upd_same⟩
/-- text * k: some text, not too long -/
def rMulS : R2 := fun x y H Q => ∃ (l : List Nat) (k : Int), x = .str (S l) ∧ y = .int k ∧ 0 ≤ k ∧ k ≤ 1000 ∧ l.length ≤ 1000 ∧ ∀ l' : List Nat, l'.length ≤ l.length * k.toNat + l.length → Q (.str (S l')) H
theorem rep_size (a : Array Nat) : ∀ (k : Nat) (b : Array Nat), ((List.replicate k a).foldl (· ++ ·) b).size = b.size + a.size * k
  | 0, b => by simp
  | k + 1, b => by
    rw [List.replicate_succ, List.foldl_cons, rep_size a k (b ++ a), Array.size_append, Nat.mul_succ]
    omega
theorem op_mulS : OpR X (binaryOp .Mult) rMulS := by
  intro pins s σ H x y v u Q I rx ry h
  obtain ⟨l, k, rfl, rfl, h0, h1, hl, q⟩ := h
  obtain ⟨t, rfl⟩ := rx
  obtain ⟨t', rfl⟩ := ry
  have hS : (S l).length = l.length := SX.S_len l
  have fin : ∀ (z : Str) (c : Nat) (t2 : Tok), z.length ≤ l.length * k.toNat + l.length → EP X pins σ Q (.str z t2) { s with toks := c } := fun z c t2 hz => by
    refine ⟨.str z, H, I.tok _, ⟨_, rfl⟩, ?_⟩
    rw [S_of z]
    exact q _ (by rw [Array.length_toList]; exact hz)
  have hk1 : l.length * k.toNat ≤ 1000 * 1000 := Nat.mul_le_mul hl (by omega)
  refine PySem.P.mul_str (by rw [decide_eq_false (by omega), decide_eq_false (by omega)]; rfl) (fun a b c => ?_) (fun a b => ?_) ?_
  · rw [hS] at c
    have c2 := Int.lt_of_lt_of_le (show ((2 : Int) ^ 63 - 1) / 1000 < _ from (by decide : ((2 : Int) ^ 63 - 1) / 1000 < 9223372036854776)) (Int.le_refl _)
    have c3 : (9223372036854775 : Int) ≤ (2 ^ 63 - 1) / k := by
      refine Int.le_ediv_of_mul_le (by omega) ?_
      have : (9223372036854775 : Int) * k ≤ 9223372036854775 * 1000 := Int.mul_le_mul_of_nonneg_left h1 (by decide)
      omega
    omega
  · rw [hS]
    show decide _ = false
    refine decide_eq_false ?_
    have e := sizeLine_eq
    unfold sizeLine at e
    first
      | omega
      | (rw [sizeLine_eq]; omega)
  · split
    · exact ⟨by decide, fin _ _ _ (by show (#[] : Array Nat).size ≤ _; simp)⟩
    · split
      · exact fin (S l) s.toks t (by rw [hS]; omega)
      · have hz : (⟨(List.replicate k.toNat (S l).cps).foldl (· ++ ·) #[]⟩ : Str).length ≤ l.length * k.toNat + l.length := by
          show ((List.replicate k.toNat (S l).cps).foldl (· ++ ·) #[]).size ≤ _
          rw [rep_size]
          have e : (S l).cps.size = l.length := hS
          rw [e]
          simp
        exact ⟨by rw [sizeLine_eq]; omega, fin _ _ _ hz⟩
theorem r_mulS {H : Hp} {Q : VK} {l : List Nat} {k : Int} (h0 : 0 ≤ k) (h1 : k ≤ 1000) (hl : l.length ≤ 1000) (q : ∀ l' : List Nat, l'.length ≤ l.length * k.toNat + l.length → Q (.str (S l')) H) : rMulS (.str (S l)) (.int k) H Q := ⟨l, k, rfl, rfl, h0, h1, hl, q⟩
/-- text[::-1]: some text, not longer -/
def tRevS (te : TE) : TE := fun σ H Q => te σ H fun x H1 => ∃ l : List Nat, x = .str (S l) ∧ l.length ≤ 1000000 ∧ ∀ l' : List Nat, l'.length ≤ l.length → Q (.str (S l')) H1
theorem pe_revS {e : Expr} {te : TE} {k : Nat} {p1 p2 p3 pos : Pos} (he : PE X e te) : PE X (.Subscript e (.Slice none none (some (.UnaryOp .USub (.Constant (.int 1) k p1) p2)) p3) pos) (tRevS te) := by
  refine ⟨fun pins s σ H Q I h => ?_⟩
  refine Subscript_ (thn (he.run pins s σ H _ I h) fun v s1 ⟨x, H1, I1, r1, q1⟩ => ?_)
  obtain ⟨l, ex, hl, q⟩ := q1
  subst ex
  obtain ⟨t, rfl⟩ := r1
  have hst : PO X (some (.UnaryOp .USub (.Constant (.int 1) k p1) p2)) (tPart (tUn (rU fun i => .int (-i)) (tC (.int 1)))) := po_some (pe_un un_neg pe_int)
  refine wpAny_Slice (thn (po_none.run pins s1 σ H1 (fun o H2 => o = none ∧ H2 = H1) I1 ⟨rfl, rfl⟩) fun vl s2 ⟨l', H2, I2, pl, el, e2⟩ => ?_)
  subst el e2
  refine thn (po_none.run pins s2 σ H2 (fun o H3 => o = none ∧ H3 = H2) I2 ⟨rfl, rfl⟩) fun vu s3 ⟨u, H3, I3, pu, eu, e3⟩ => ?_
  subst eu e3
  refine thn (hst.run pins s3 σ H3 (fun o H4 => o = some (-1) ∧ H4 = H3) I3 ⟨1, rfl, -1, rfl, rfl, rfl⟩) fun vs s4 ⟨o, H4, I4, ps, eo, e4⟩ => ?_
  subst eo e4
  have I5 : Inv X pins σ H4 { s4 with heap := s4.heap.push { cls := .type "slice", data := .fields #[vl, vu, vs] } } := I4.kept (t' := s4.toks) fun b ob q => Heap.get?_push_of_some _ q
  show wpAny (model X.prog X.w) X.A (subscriptTail e (.Slice none none (some (.UnaryOp .USub (.Constant (.int 1) k p1) p2)) p3) (.str (S l) t) (.ref s4.heap.objs.size)) (EP X pins σ Q) X.xe { s4 with heap := s4.heap.push { cls := .type "slice", data := .fields #[vl, vu, vs] } }
  obtain ⟨o1, rfl, e1⟩ := IsPart.raw pl
  obtain ⟨o2, rfl, e2⟩ := IsPart.raw pu
  obtain ⟨o3, rfl, e3⟩ := IsPart.raw ps
  cases o1 with
  | some _ => cases e1
  | none =>
    cases o2 with
    | some _ => cases e2
    | none =>
      cases o3 with
      | none => cases e3
      | some kt =>
        obtain ⟨kk, uk⟩ := kt
        have ek : kk = -1 := Option.some.inj e3
        subst ek
        have hS : (S l).length = l.length := SX.S_len l
        have hle := Txt.sliceBy_le (S l) none none (-1, uk) (show (-1 : Int) ≠ 0 by decide)
        refine tail_any (ops := [.str (S l) t, .ref s4.heap.objs.size]) (typeIs_str _ _ _) (F.slot_str_getitem.lookup) ?_ (by with_unfolding_all rfl)
        refine wpAny_getItem_str_slice (l := none) (u := none) (st := some (-1, uk)) ⟨_, Heap.get?_push_size _ rfl, rfl, rfl⟩ rfl ?_
        refine post_val_or_str ⟨Nat.le_trans hle (by rw [hS]; exact len1M hl), fun t' c => ?_⟩
        refine ⟨.str (Txt.sliceBy (S l) none none (-1, uk)), H4, I5.tok _, ⟨_, rfl⟩, ?_⟩
        rw [S_of (Txt.sliceBy (S l) none none (-1, uk))]
        exact q _ (by rw [Array.length_toList]; rw [hS] at hle; exact hle)
theorem r_revS {σ : L2.St} {H : Hp} {Q : VK} {te : TE} (q : te σ H fun x H1 => ∃ l : List Nat, x = .str (S l) ∧ l.length ≤ 1000000 ∧ ∀ l' : List Nat, l'.length ≤ l.length → Q (.str (S l')) H1) : tRevS te σ H Q := q
theorem op_in_seqK {K : PySem.W.Frag} (h : X.K = K) : OpR X (compareOp .In) (rIn K false) := h ▸ op_in_seq
theorem op_notIn_seqK {K : PySem.W.Frag} (h : X.K = K) : OpR X (compareOp .NotIn) (rIn K true) := h ▸ op_notIn_seq
theorem ix_listK {K : PySem.W.Frag} (h : X.K = K) : IxR X (rIxL K) := h ▸ ix_list
theorem ix_tupK {K : PySem.W.Frag} (h : X.K = K) : IxR X (rIxT K) := h ▸ ix_tup
theorem ix_seqK {K : PySem.W.Frag} (h : X.K = K) : IxR X (rIx K) := h ▸ ix_seq
theorem r_strV {l : Str} {P : Prop} (q : P) : (∃ a, V.str l = V.str a) ∧ P := ⟨⟨_, rfl⟩, q⟩
theorem r_strE {l : Str} {P : Str → Prop} (q : P l) : ∃ x, V.str l = .str x ∧ P x := ⟨_, rfl, q⟩
theorem r_szle {xs : List V} {P : Prop} (h : xs.length ≤ 1000000) (q : P) : xs.length ≤ sizeLine ∧ P := ⟨len1M h, q⟩
theorem itd {c A B : Prop} [Decidable c] (h1 : c → A) (h2 : ¬ c → B) : if decide c = true then A else B := ite2 (fun h => h1 (of_decide_eq_true h)) fun h => h2 fun z => h (decide_eq_true z)
theorem itn {c A B : Prop} [Decidable c] (h1 : ¬ c → A) (h2 : c → B) : if (!decide c) = true then A else B := ite2 (fun h => h1 fun z => by rw [decide_eq_true z] at h; cases h) fun h => h2 (by
  by_cases z : c
  · exact z
  · rw [decide_eq_false z] at h
    exact absurd rfl h)
theorem itnn {c A B : Prop} [Decidable c] (h1 : c → A) (h2 : ¬ c → B) : if (!(!decide c)) = true then A else B := by
  rw [Bool.not_not]
  exact itd h1 h2
theorem itT {A B : Prop} (h : A) : if (!false) = true then A else B := by
  rw [if_pos (by rfl)]
  exact h
theorem itF {A B : Prop} (h : B) : if (!true) = true then A else B := by
  rw [if_neg (by decide)]
  exact h
theorem sg_false {c : Nat} (h : c < 32 ∨ 126 < c) : Tx.isSg c = false := decide_eq_false (by omega)
theorem sg_true {c : Nat} (h : ¬ c < 32) (h2 : ¬ 126 < c) : Tx.isSg c = true := decide_eq_true (by omega)
theorem S_inj {a b : List Nat} (h : S a = S b) : a = b := by
  have z := congrArg (fun s : Str => s.cps.toList) h
  exact z
theorem decS (a b : List Nat) : decide (V.str (S a) = V.str (S b)) = decide (a = b) := decide_eq_decide.mpr ⟨fun h => S_inj (V.str.inj h), fun h => by rw [h]⟩
theorem dec1 (a b : Nat) : decide ([a] = [b]) = decide (a = b) := decide_eq_decide.mpr ⟨fun h => (List.cons.inj h).1, fun h => by rw [h]⟩
theorem decI (a b : Int) : decide (V.int a = V.int b) = decide (a = b) := decide_eq_decide.mpr ⟨fun h => V.int.inj h, fun h => by rw [h]⟩
theorem r_eqS1 {H : Hp} {Q : VK} {a b : Nat} (q : Q (.bl (decide (a = b))) H) : rEq (.str (S [a])) (.str (S [b])) H Q := r_eq (by rw [decS, dec1]; exact q)
theorem r_neS1 {H : Hp} {Q : VK} {a b : Nat} (q : Q (.bl (!decide (a = b))) H) : rNe (.str (S [a])) (.str (S [b])) H Q := r_ne (by rw [decS, dec1]; exact q)
theorem r_eqSL {H : Hp} {Q : VK} {a b : List Nat} (q : Q (.bl (decide (a = b))) H) : rEq (.str (S a)) (.str (S b)) H Q := r_eq (by rw [decS]; exact q)
theorem r_neSL {H : Hp} {Q : VK} {a b : List Nat} (q : Q (.bl (!decide (a = b))) H) : rNe (.str (S a)) (.str (S b)) H Q := r_ne (by rw [decS]; exact q)
theorem r_eqI {H : Hp} {Q : VK} {a b : Int} (q : Q (.bl (decide (a = b))) H) : rEq (.int a) (.int b) H Q := r_eq (by rw [decI]; exact q)
theorem drop_at {l : List Nat} {p : Nat} (h : p < l.length) : ∃ c, l[p]? = some c ∧ atI l (p : Int) = some c ∧ l.drop p = c :: l.drop (p + 1) := ⟨l[p], List.getElem?_eq_getElem h, atI_nat (List.getElem?_eq_getElem h), List.drop_eq_getElem_cons h⟩
theorem drop_end {l : List Nat} {p : Nat} (h : l.length ≤ p) : l.drop p = [] := List.drop_eq_nil_of_le h
/-- str(int) -/
def rStrI : List V → Hp → VK → Prop := fun xs H Q => ∃ i : Int, xs = [.int i] ∧ (-1000000000000000000000000000000 < i ∧ i < 1000000000000000000000000000000) ∧ Q (.str (S (Tx.intC i))) H
theorem intC_S (i : Int) : (Str.ofString (toString i)) = S (Tx.intC i) := by
  unfold Tx.intC
  cases i with
  | ofNat n =>
    rw [if_neg (by simp)]
    exact SX.num_S n
  | negSucc n =>
    rw [if_pos (Int.negSucc_lt_zero n)]
    have e : (toString (Int.negSucc n) : String) = "-" ++ Nat.repr (n + 1) := rfl
    rw [e]
    have z : (Int.negSucc n).natAbs = n + 1 := rfl
    rw [z, Str.ofString_eq_toList, String.toList_append, List.map_append]
    have z2 : (Nat.repr (n + 1)).toList.map Char.toNat = TL.numL (n + 1) := by
      rw [Nat.toList_repr]
      rfl
    rw [z2]
    rfl
theorem call_strI : CallR X (.type "str") rStrI := by
  intro pins s σ H xs us Q I r h
  obtain ⟨i, rfl, hb, q⟩ := h
  refine call_str_int pins s σ H _ us Q I r ⟨i, rfl, ?_, ?_⟩
  · by_cases hz : i.natAbs = 0
    · rw [hz]
      decide
    · refine Nat.lt_of_lt_of_le ((Nat.log2_lt (n := i.natAbs) (k := 100) hz).mpr ?_) (by decide)
      have : (2 : Nat) ^ 100 = 1267650600228229401496703205376 := by decide
      omega
  · have e := intC_S i
    show Q (.str (Str.ofString (toString i))) H
    rw [e]
    exact q
end
theorem cutS_S (l : List Nat) (lo hi : Option Int) : cutS (S l) lo hi = S ((l.drop (HT.sIx l.length 0 lo)).take (HT.sIx l.length l.length hi - HT.sIx l.length 0 lo)) := by
  unfold cutS
  rfl
theorem sIx_n (n d k : Nat) (h : k ≤ n) : HT.sIx n d (some (k : Int)) = k := by
  rw [HT.sIx_nat]
  omega
section
variable {l : List Nat} {H : Hp} {Q : VK}
theorem r_slS {lo hi : Option Int} (hl : l.length ≤ 1000000) (q : Q (.str (S ((l.drop (HT.sIx l.length 0 lo)).take (HT.sIx l.length l.length hi - HT.sIx l.length 0 lo)))) H) : rSlS (.str (S l)) lo hi H Q :=
  ⟨S l, rfl, by rw [SX.S_len]; exact len1M hl, by rw [cutS_S]; exact q⟩
theorem r_slPQ {p q : Nat} {pi qi : Int} (hl : l.length ≤ 1000000) (ep : pi = (p : Nat)) (eq : qi = (q : Nat)) (hp : p ≤ l.length) (hq : q ≤ l.length) (r : Q (.str (S ((l.drop p).take (q - p)))) H) : rSlS (.str (S l)) (some pi) (some qi) H Q := by
  subst ep eq
  refine r_slS hl ?_
  rw [sIx_n _ _ _ hp, sIx_n _ _ _ hq]
  exact r
theorem r_slP {p : Nat} {pi : Int} (hl : l.length ≤ 1000000) (ep : pi = (p : Nat)) (hp : p ≤ l.length) (r : Q (.str (S (l.drop p))) H) : rSlS (.str (S l)) (some pi) none H Q := by
  subst ep
  refine r_slS hl ?_
  rw [sIx_n _ _ _ hp, HT.sIx_none, List.take_of_length_le (by rw [List.length_drop]; omega)]
  exact r
theorem r_slQ {q : Nat} {qi : Int} (hl : l.length ≤ 1000000) (eq : qi = (q : Nat)) (hq : q ≤ l.length) (r : Q (.str (S (l.take q))) H) : rSlS (.str (S l)) none (some qi) H Q := by
  subst eq
  refine r_slS hl ?_
  rw [sIx_n _ _ _ hq, HT.sIx_none, List.drop_zero, Nat.sub_zero]
  exact r
end
end KB
set_option linter.all false
set_option maxRecDepth 100000
namespace Tx
open PySem
/-- what is left begins at the place -/
def Res.suf (cs : List Nat) (p : Nat) : Res → Prop
  | .ok _ r q => p ≤ q ∧ r = cs.drop (q - p)
  | .bad _ => True
theorem suf_pre {pre r : List Nat} {p : Nat} : ∀ {R : Res}, R.suf r (p + pre.length) → R.suf (pre ++ r) p
  | .ok d s q, h => by
    obtain ⟨h1, h2⟩ := h
    refine ⟨by omega, ?_⟩
    rw [h2, show q - p = pre.length + (q - (p + pre.length)) by omega, ← List.drop_drop, List.drop_left]
  | .bad _, _ => trivial
theorem rdS_suf : ∀ (n : Nat) (cs : List Nat) (p : Nat) (acc : List Nat), cs.length ≤ n → (rdS cs p acc).suf cs p
  | n, [], p, acc, _ => trivial
  | 0, c :: r, p, acc, h => by simp at h
  | n + 1, c :: r, p, acc, h => by
    simp only [List.length_cons] at h
    unfold rdS
    split
    · exact ⟨by omega, by rw [show p + 1 - p = 1 by omega]; rfl⟩
    · split
      · trivial
      · split
        · cases r with
          | nil => trivial
          | cons c' r' =>
            dsimp only
            split
            · exact suf_pre (pre := [c, c']) (rdS_suf n r' (p + 2) _ (by simp at h; omega))
            · trivial
        · exact suf_pre (pre := [c]) (rdS_suf n r (p + 1) _ (by omega))
theorem rdU_suf (neg : Bool) (cs : List Nat) (p : Nat) : (rdU neg cs p).suf cs p := by
  unfold rdU
  split
  · split
    · trivial
    · exact ⟨by omega, by rw [show p + 1 - p = 1 by omega]; rfl⟩
  · split
    · trivial
    · refine ⟨by omega, ?_⟩
      unfold afterD
      rw [show p + (digs 30 cs).length - p = (digs 30 cs).length by omega]
theorem rdI_suf (cs : List Nat) (p : Nat) : (rdI cs p).suf cs p := by
  unfold rdI
  split
  · rename_i r
    exact suf_pre (pre := [45]) (rdU_suf true r (p + 1))
  · exact rdU_suf false _ p
theorem suf_more {cs r : List Nat} {p q : Nat} {R : Res} (h : p ≤ q ∧ r = cs.drop (q - p)) (h2 : R.suf r q) : R.suf cs p := by
  cases R with
  | bad _ => trivial
  | ok d s q2 =>
    obtain ⟨a, b⟩ := h2
    refine ⟨by omega, ?_⟩
    rw [b, h.2, List.drop_drop]
    congr 1
    omega
mutual
theorem pv_suf : ∀ (f k : Nat) (cs : List Nat) (p : Nat), (pv f k cs p).suf cs p
  | 0, _, cs, p => by unfold pv; trivial
  | f + 1, k, cs, p => by
    unfold pv
    split
    · trivial
    · exact ⟨by omega, by rw [show p + 1 - p = 1 by omega]; rfl⟩
    · rename_i r
      exact suf_pre (pre := [39]) (rdS_suf r.length r (p + 1) [] (Nat.le_refl _))
    · rename_i r
      split
      · trivial
      · split
        · exact ⟨by omega, by rw [show p + 2 - p = 2 by omega]; rfl⟩
        · exact suf_pre (pre := [40]) (pi_suf f _ r (p + 1) [])
    · exact rdI_suf _ _
theorem pi_suf : ∀ (f k : Nat) (cs : List Nat) (p : Nat) (acc : List PyData), (pi f k cs p acc).suf cs p
  | 0, _, cs, p, _ => by unfold pi; trivial
  | f + 1, k, cs, p, acc => by
    unfold pi
    have h := pv_suf f k cs p
    revert h
    cases pv f k cs p with
    | bad q => intro _; trivial
    | ok d r q =>
      intro h
      obtain ⟨h1, h2⟩ := h
      dsimp only
      split
      · rename_i r'
        refine ⟨by omega, ?_⟩
        rw [show q + 1 - p = (q - p) + 1 by omega, ← List.drop_drop, ← h2]
        rfl
      · rename_i r'
        refine suf_more (q := q + 1) ⟨by omega, ?_⟩ (pi_suf f k r' (q + 1) (acc ++ [d]))
        rw [show q + 1 - p = (q - p) + 1 by omega, ← List.drop_drop, ← h2]
        rfl
      · trivial
end
theorem PV_suf (k : Nat) (cs : List Nat) (p : Nat) : (PV k cs p).suf cs p := pv_suf _ _ _ _
end Tx
set_option Elab.async false
set_option linter.all false
set_option maxRecDepth 100000
set_option maxHeartbeats 4000000
/-! values as data: tuples of None, numbers, texts; odd things -/
namespace KB
open PySem PySem.Spec PyProof.Rows L2
open SX (S)
theorem walk_S {l : List Nat} : Walk (Its (S l)) l.length (fun _ => True) (fun i H v H' => H' = H ∧ ∃ c, l[i]? = some c ∧ v = V.str (S [c])) := by
  have h := walk_str (z := S l)
  have e1 : (S l).cps.size = l.length := SX.S_len l
  have e2 : ∀ i : Nat, (S l).cps[i]? = l[i]? := fun i => by
    show l.toArray[i]? = l[i]?
    simp
  rw [e1] at h
  simp only [e2] at h
  exact h
theorem take_map {α β : Type} {l : List α} {i : Nat} {x : α} (f : α → β) (h : l[i]? = some x) : (l.take (i + 1)).map f = (l.take i).map f ++ [f x] := by
  rw [List.take_add_one, h, List.map_append]
  rfl
theorem take_one {α : Type} {l : List α} {i : Nat} {x : α} (h : l[i]? = some x) : l.take (i + 1) = l.take i ++ [x] := by
  rw [List.take_add_one, h]
  rfl
theorem lex1 (x y : Nat) : ([x] < [y]) ↔ x < y := by
  rw [List.cons_lt_cons_iff]
  have h : ¬ (([] : List Nat) < []) := fun z => by cases z
  exact ⟨fun e => e.elim id fun e => absurd e.2 h, .inl⟩
/-- tuples are kept -/
def KT (H H' : Hp) : Prop := ∀ b xs, H b = some (.tup xs) → H' b = some (.tup xs)
theorem KT.refl {H : Hp} : KT H H := fun _ _ h => h
theorem KT.trans {H H1 H2 : Hp} (x : KT H H1) (y : KT H1 H2) : KT H H2 := fun b xs h => y b xs (x b xs h)
theorem Ex.kt {H H' : Hp} (e : Ex H H') : KT H H' := fun b xs h => e b _ h
theorem Dr.kt {H H' : Hp} {a c : Addr} {ns : List Int} (x : Dr H a c ns H') (h : Hand H a c ns) : KT H H' := fun b xs e => x.xe b _ (fun z => by
  obtain ⟨ys, hy⟩ := h.lst
  rw [z, hy] at e
  cases e) e
theorem KT.upd {H : Hp} {a : Addr} {o : HO} (h : ∀ xs, H a ≠ some (.tup xs)) : KT H (L2.upd H a o) := fun b xs e => by
  by_cases z : b = a
  · rw [z] at e
    exact absurd e (h xs)
  · rw [upd_ne z]
    exact e
mutual
inductive TD (H : Hp) : V → PyData → Prop
  | non : TD H .non .none
  | int (i : Int) : TD H (.int i) (.int i)
  | str (l : List Nat) : TD H (.str (S l)) (.str (S l))
  | tup {a : Addr} {xs : List V} {ds : List PyData} : H a = some (.tup xs) → TDs H xs ds → TD H (.ref a) (.tuple ds)
inductive TDs (H : Hp) : List V → List PyData → Prop
  | nil : TDs H [] []
  | cons {v : V} {vs : List V} {d : PyData} {ds : List PyData} : TD H v d → TDs H vs ds → TDs H (v :: vs) (d :: ds)
end
mutual
theorem TD.kt {H H' : Hp} (k : KT H H') : ∀ {d : PyData} {v : V}, TD H v d → TD H' v d
  | .none, _, h => by cases h; exact .non
  | .int _, _, h => by cases h; exact .int _
  | .str _, _, h => by cases h; exact .str _
  | .tuple ds, _, h => by
    cases h with
    | tup e hs => exact .tup (k _ _ e) (TDs.kt k hs)
  | .bool _, _, h => by cases h
  | .list _, _, h => by cases h
theorem TDs.kt {H H' : Hp} (k : KT H H') : ∀ {ds : List PyData} {vs : List V}, TDs H vs ds → TDs H' vs ds
  | [], _, h => by cases h; exact .nil
  | d :: ds, _, h => by
    cases h with
    | cons h1 h2 => exact .cons (TD.kt k h1) (TDs.kt k h2)
end
theorem TDs.len {H : Hp} : ∀ {ds : List PyData} {vs : List V}, TDs H vs ds → vs.length = ds.length
  | [], _, h => by cases h; rfl
  | d :: ds, _, h => by
    cases h with
    | cons h1 h2 => simp [TDs.len h2]
theorem TDs.get {H : Hp} : ∀ {ds : List PyData} {vs : List V}, TDs H vs ds → ∀ {i : Nat} {v : V}, vs[i]? = some v → ∃ d, ds[i]? = some d ∧ TD H v d
  | [], _, h, i, v, e => by cases h; simp at e
  | d :: ds, _, h, i, v, e => by
    cases h with
    | cons h1 h2 =>
      cases i with
      | zero =>
        have e' := Option.some.inj e
        subst e'
        exact ⟨d, rfl, h1⟩
      | succ i => exact TDs.get h2 (i := i) e
theorem TDs.app {H : Hp} : ∀ {ds : List PyData} {vs : List V} {es : List PyData} {us : List V}, TDs H vs ds → TDs H us es → TDs H (vs ++ us) (ds ++ es)
  | [], _, _, _, h, k => by cases h; exact k
  | d :: ds, _, _, _, h, k => by
    cases h with
    | cons h1 h2 => exact .cons h1 (TDs.app h2 k)
mutual
theorem TD.dp {K : PySem.W.Frag} {H : Hp} : ∀ {d : PyData} {v : V}, TD H v d → Dp K H v d
  | .none, _, h => by cases h; exact .non
  | .int _, _, h => by cases h; exact .int _
  | .str _, _, h => by cases h; exact .str _
  | .tuple ds, _, h => by
    cases h with
    | tup e hs => exact .tup (SqT.of e) (TDs.dp hs)
  | .bool _, _, h => by cases h
  | .list _, _, h => by cases h
theorem TDs.dp {K : PySem.W.Frag} {H : Hp} : ∀ {ds : List PyData} {vs : List V}, TDs H vs ds → DpAll K H vs ds
  | [], _, h => by cases h; exact .nil
  | d :: ds, _, h => by
    cases h with
    | cons h1 h2 => exact .cons (TD.dp h1) (TDs.dp h2)
end
theorem joinL_nil : ∀ ys : List (List Nat), TL.joinL [] ys = ys.flatten
  | [] => rfl
  | [x] => by simp [TL.joinL]
  | x :: y :: r => by
    have h := joinL_nil (y :: r)
    show x ++ ([] ++ TL.joinL [] (y :: r)) = _
    rw [h]
    simp
theorem escC_eq (l : List Nat) : TL.joinL [] (l.map Tx.esc1) = Tx.escC l := by
  rw [joinL_nil]
  unfold Tx.escC
  rw [List.flatMap_def]
theorem esc_sum (l : List Nat) : ((l.map Tx.esc1).map (·.length)).sum = (Tx.escC l).length := by
  rw [← escC_eq, joinL_nil, List.length_flatten]
theorem pks_eq : ∀ ds : List PyData, Tx.pks ds = ds.map Tx.pk
  | [] => rfl
  | d :: ds => by simp [Tx.pks, pks_eq ds]
theorem isThs_all (n : Nat) : ∀ ds : List PyData, Tx.isThs ds n = ds.all fun d => Tx.isTh d n
  | [] => by simp [Tx.isThs]
  | d :: ds => by simp [Tx.isThs, isThs_all n ds]
mutual
theorem isTh_mono : ∀ (d : PyData) {n m : Nat}, Tx.isTh d n = true → n ≤ m → Tx.isTh d m = true
  | .none, n, m, _, _ => by simp [Tx.isTh]
  | .int i, n, m, h, _ => by unfold Tx.isTh at h ⊢; exact h
  | .str s, n, m, h, _ => by unfold Tx.isTh at h ⊢; exact h
  | .tuple ds, n, m, h, hnm => by
    cases n with
    | zero => simp [Tx.isTh] at h
    | succ n =>
      cases m with
      | zero => omega
      | succ m =>
        show Tx.isThs ds m = true
        exact isThs_mono ds (show Tx.isThs ds n = true from h) (by omega)
  | .bool _, n, m, h, _ => by simp [Tx.isTh] at h
  | .list _, n, m, h, _ => by simp [Tx.isTh] at h
  | .dict _, n, m, h, _ => by simp [Tx.isTh] at h
theorem isThs_mono : ∀ (ds : List PyData) {n m : Nat}, Tx.isThs ds n = true → n ≤ m → Tx.isThs ds m = true
  | [], n, m, _, _ => by simp [Tx.isThs]
  | d :: ds, n, m, h, hnm => by
    simp only [Tx.isThs, Bool.and_eq_true] at h ⊢
    exact ⟨isTh_mono d h.1 hnm, isThs_mono ds h.2 hnm⟩
end
theorem joinL_sum : ∀ xs : List (List Nat), (xs.map (·.length)).sum ≤ (TL.joinL [44] xs).length
  | [] => Nat.zero_le _
  | [x] => by simp [TL.joinL]
  | x :: y :: r => by
    have h := joinL_sum (y :: r)
    rw [Tx.joinL_cons]
    simp only [List.length_append, List.length_cons, List.map_cons, List.sum_cons] at h ⊢
    omega
theorem sum_mem : ∀ {xs : List (List Nat)} {x : List Nat}, x ∈ xs → x.length ≤ (xs.map (·.length)).sum
  | y :: ys, x, h => by
    rcases List.mem_cons.mp h with rfl | h
    · simp
    · have := sum_mem h
      simp only [List.map_cons, List.sum_cons]
      omega
theorem pk_mem {ds : List PyData} {d : PyData} (h : d ∈ ds) : (Tx.pk d).length + 2 ≤ (Tx.pk (.tuple ds)).length := by
  have h1 := joinL_sum (Tx.pks ds)
  have h2 : Tx.pk d ∈ Tx.pks ds := by
    rw [pks_eq]
    exact List.mem_map_of_mem h
  have h3 := sum_mem h2
  simp only [Tx.pk, List.length_cons, List.length_append, List.length_nil]
  omega
/-! ### any value, as far as is_thing looks -/
inductive G where
  | non | bl (b : Bool) | int (i : Int) | str (l : List Nat) | tup (gs : List G) | lst | dic
def G.kd : G → Kd
  | .non => .non
  | .bl _ => .bl
  | .int _ => .int
  | .str _ => .str
  | .tup _ => .tup
  | .lst => .lst
  | .dic => .dic
mutual
inductive GR (H : Hp) : V → G → Prop
  | non : GR H .non .non
  | bl (b : Bool) : GR H (.bl b) (.bl b)
  | int (i : Int) : GR H (.int i) (.int i)
  | str (l : List Nat) : GR H (.str (S l)) (.str l)
  | tup {a : Addr} {xs : List V} {gs : List G} : H a = some (.tup xs) → GRs H xs gs → GR H (.ref a) (.tup gs)
  | lst {a : Addr} {xs : List V} : H a = some (.lst xs) → GR H (.ref a) .lst
  | dic {a : Addr} {kvs : List (Key × V)} : H a = some (.dK kvs) → GR H (.ref a) .dic
inductive GRs (H : Hp) : List V → List G → Prop
  | nil : GRs H [] []
  | cons {v : V} {vs : List V} {g : G} {gs : List G} : GR H v g → GRs H vs gs → GRs H (v :: vs) (g :: gs)
end
theorem GR.isK {K : PySem.W.Frag} {H : Hp} {v : V} {g : G} (h : GR H v g) : IsK K H v g.kd := by
  cases h with
  | non => exact .base .non
  | bl b => exact .base (.bl b)
  | int i => exact .base (.int i)
  | str l => exact .base (.str _)
  | tup e _ => exact .base (.tup e)
  | lst e => exact .base (.lst e)
  | dic e => exact .base (.dK e)
/-- tuples, dicts are kept; lists stay lists -/
structure KG (H H' : Hp) : Prop where
  tup : KT H H'
  lst : ∀ b xs, H b = some (.lst xs) → ∃ ys, H' b = some (.lst ys)
  dic : ∀ b kvs, H b = some (.dK kvs) → H' b = some (.dK kvs)
theorem Ex.kg {H H' : Hp} (e : Ex H H') : KG H H' := ⟨e.kt, fun b xs h => ⟨xs, e b _ h⟩, fun b kvs h => e b _ h⟩
theorem Dr.kg {H H' : Hp} {a c : Addr} {ns : List Int} (x : Dr H a c ns H') (h : Hand H a c ns) : KG H H' := ⟨x.kt h, fun b xs e => by
  by_cases hb : b = a
  · rw [hb]
    exact x.hand.lst
  · exact ⟨xs, x.xe b _ hb e⟩, fun b kvs e => x.xe b _ (fun z => by
  obtain ⟨ys, hy⟩ := h.lst
  rw [z, hy] at e
  cases e) e⟩
mutual
theorem GR.kg {H H' : Hp} (k : KG H H') : ∀ {g : G} {v : V}, GR H v g → GR H' v g
  | .non, _, h => by cases h; exact .non
  | .bl _, _, h => by cases h; exact .bl _
  | .int _, _, h => by cases h; exact .int _
  | .str _, _, h => by cases h; exact .str _
  | .tup gs, _, h => by
    cases h with
    | tup e hs => exact .tup (k.tup _ _ e) (GRs.kg k hs)
  | .lst, _, h => by
    cases h with
    | lst e =>
      obtain ⟨ys, e'⟩ := k.lst _ _ e
      exact .lst e'
  | .dic, _, h => by
    cases h with
    | dic e => exact .dic (k.dic _ _ e)
theorem GRs.kg {H H' : Hp} (k : KG H H') : ∀ {gs : List G} {vs : List V}, GRs H vs gs → GRs H' vs gs
  | [], _, h => by cases h; exact .nil
  | g :: gs, _, h => by
    cases h with
    | cons h1 h2 => exact .cons (GR.kg k h1) (GRs.kg k h2)
end
theorem GRs.len {H : Hp} : ∀ {ds : List G} {vs : List V}, GRs H vs ds → vs.length = ds.length
  | [], _, h => by cases h; rfl
  | d :: ds, _, h => by
    cases h with
    | cons h1 h2 => simp [GRs.len h2]
theorem GRs.get {H : Hp} : ∀ {ds : List G} {vs : List V}, GRs H vs ds → ∀ {i : Nat} {v : V}, vs[i]? = some v → ∃ d, ds[i]? = some d ∧ GR H v d
  | [], _, h, i, v, e => by cases h; simp at e
  | d :: ds, _, h, i, v, e => by
    cases h with
    | cons h1 h2 =>
      cases i with
      | zero =>
        have e' := Option.some.inj e
        subst e'
        exact ⟨d, rfl, h1⟩
      | succ i => exact GRs.get h2 (i := i) e
mutual
/-- is_thing's answer -/
def gTh : G → Nat → Bool
  | .non, _ => true
  | .bl _, _ => false
  | .int i, _ => decide (-999999999999999999999999999999 ≤ i ∧ i ≤ 999999999999999999999999999999)
  | .str l, _ => l.all Tx.isSg
  | .tup gs, n => (match n with
    | 0 => false
    | m + 1 => gThs gs m)
  | .lst, _ => false
  | .dic, _ => false
def gThs : List G → Nat → Bool
  | [], _ => true
  | g :: gs, n => gTh g n && gThs gs n
end
mutual
/-- how large: texts, tuples -/
def gSz : G → Nat
  | .str l => l.length
  | .tup gs => gs.length + gSzs gs
  | _ => 0
def gSzs : List G → Nat
  | [] => 0
  | g :: gs => gSz g + gSzs gs
end
theorem gSz_mem : ∀ {gs : List G} {i : Nat} {g : G}, gs[i]? = some g → gSz g ≤ gSzs gs
  | [], i, g, e => by simp at e
  | x :: gs, 0, g, e => by
    have e' := Option.some.inj e
    subst e'
    simp only [gSzs]
    omega
  | x :: gs, i + 1, g, e => by
    have h := gSz_mem (gs := gs) (i := i) (g := g) e
    simp only [gSzs]
    omega
theorem gThs_all (n : Nat) : ∀ gs : List G, gThs gs n = gs.all fun g => gTh g n
  | [] => by simp [gThs]
  | g :: gs => by simp [gThs, gThs_all n gs]
mutual
def d2g : PyData → G
  | .none => .non
  | .int i => .int i
  | .str s => .str s.cps.toList
  | .tuple ds => .tup (d2gs ds)
  | .bool b => .bl b
  | .list _ => .lst
  | .dict _ => .dic
def d2gs : List PyData → List G
  | [] => []
  | d :: ds => d2g d :: d2gs ds
end
mutual
theorem TD.gr {H : Hp} : ∀ {d : PyData} {v : V}, TD H v d → GR H v (d2g d)
  | .none, _, h => by cases h; exact .non
  | .int _, _, h => by cases h; exact .int _
  | .str _, _, h => by
    cases h with
    | str l => exact .str l
  | .tuple ds, _, h => by
    cases h with
    | tup e hs => exact .tup e (TDs.gr hs)
  | .bool _, _, h => by cases h
  | .list _, _, h => by cases h
theorem TDs.gr {H : Hp} : ∀ {ds : List PyData} {vs : List V}, TDs H vs ds → GRs H vs (d2gs ds)
  | [], _, h => by cases h; exact .nil
  | d :: ds, _, h => by
    cases h with
    | cons h1 h2 => exact .cons (TD.gr h1) (TDs.gr h2)
end
mutual
theorem gTh_d {H : Hp} : ∀ {d : PyData} {v : V} (n : Nat), TD H v d → gTh (d2g d) n = Tx.isTh d n
  | .none, _, n, h => by simp [d2g, gTh, Tx.isTh]
  | .int _, _, n, h => by simp [d2g, gTh, Tx.isTh]
  | .str _, _, n, h => by simp [d2g, gTh, Tx.isTh]
  | .tuple ds, _, n, h => by
    cases h with
    | tup e hs =>
      cases n with
      | zero => simp [d2g, gTh, Tx.isTh]
      | succ m =>
        simp only [d2g, gTh, Tx.isTh]
        exact gThs_d m hs
  | .bool _, _, _, h => by cases h
  | .list _, _, _, h => by cases h
theorem gThs_d {H : Hp} : ∀ {ds : List PyData} {vs : List V} (n : Nat), TDs H vs ds → gThs (d2gs ds) n = Tx.isThs ds n
  | [], _, n, h => by simp [d2gs, gThs, Tx.isThs]
  | d :: ds, _, n, h => by
    cases h with
    | cons h1 h2 => simp only [d2gs, gThs, Tx.isThs, gTh_d n h1, gThs_d n h2]
end
/-- the packed text bounds the thing's size -/
theorem joinL_len : ∀ xs : List (List Nat), (TL.joinL [44] xs).length + 1 = (xs.map (·.length)).sum + xs.length + (if xs = [] then 1 else 0)
  | [] => rfl
  | [x] => by simp [TL.joinL]
  | x :: y :: r => by
    have h := joinL_len (y :: r)
    rw [Tx.joinL_cons]
    simp only [List.length_append, List.length_cons, List.map_cons, List.sum_cons, reduceCtorEq, if_false] at h ⊢
    omega
mutual
theorem gSz_pk {H : Hp} : ∀ {d : PyData} {v : V}, TD H v d → gSz (d2g d) + 1 ≤ (Tx.pk d).length
  | .none, _, h => by simp [d2g, gSz, Tx.pk]
  | .int i, _, h => by
    simp only [d2g, gSz, Tx.pk, Tx.intC]
    have := TL.numL_ne i.natAbs
    have h2 := List.length_pos_iff.mpr this
    split
    · simp only [List.length_cons]; omega
    · omega
  | .str s, _, h => by
    simp only [d2g, gSz, Tx.pk, List.length_cons, List.length_append, List.length_nil]
    have : s.cps.toList.length ≤ (Tx.escC s.cps.toList).length := by
      generalize s.cps.toList = l
      induction l with
      | nil => simp
      | cons c l ih =>
        simp only [Tx.escC, List.flatMap_cons, List.length_append, List.length_cons] at ih ⊢
        have : 1 ≤ (Tx.esc1 c).length := by
          unfold Tx.esc1
          split <;> simp
        omega
    omega
  | .tuple ds, _, h => by
    cases h with
    | tup e hs =>
      have h2 := gSzs_pk hs
      have h3 := joinL_len (Tx.pks ds)
      have h4 : (Tx.pks ds).length = ds.length := by
        clear h2 h3 e hs
        induction ds with
        | nil => rfl
        | cons d ds ih => simp [Tx.pks, ih]
      have h5 : (d2gs ds).length = ds.length := by
        clear h2 h3 h4 e hs
        induction ds with
        | nil => rfl
        | cons d ds ih => simp [d2gs, ih]
      simp only [d2g, gSz, Tx.pk, List.length_cons, List.length_append, List.length_nil]
      split at h3 <;> omega
  | .bool _, _, h => by cases h
  | .list _, _, h => by cases h
theorem gSzs_pk {H : Hp} : ∀ {ds : List PyData} {vs : List V}, TDs H vs ds → gSzs (d2gs ds) + ds.length ≤ ((Tx.pks ds).map (·.length)).sum
  | [], _, h => by simp [d2gs, gSzs, Tx.pks]
  | d :: ds, _, h => by
    cases h with
    | cons h1 h2 =>
      have h3 := gSz_pk h1
      have h4 := gSzs_pk h2
      simp only [d2gs, gSzs, Tx.pks, List.length_cons, List.map_cons, List.sum_cons]
      omega
end
/-! ### figures -/
theorem dg_mem (c : Nat) : decide (c ∈ [48, 49, 50, 51, 52, 53, 54, 55, 56, 57]) = Tx.isDg c := by
  unfold Tx.isDg
  refine decide_eq_decide.mpr ⟨fun h => ?_, fun h => ?_⟩
  · simp only [List.mem_cons, List.not_mem_nil, or_false] at h
    omega
  · simp only [List.mem_cons, List.not_mem_nil, or_false]
    omega
theorem digs_at : ∀ (k : Nat) (cs : List Nat) (i : Nat), i ≤ (Tx.digs k cs).length → (i < (Tx.digs k cs).length ↔ i < k ∧ ∃ c, cs[i]? = some c ∧ Tx.isDg c = true)
  | 0, cs, i, h => by
    simp [Tx.digs] at h
    simp [Tx.digs]
  | k + 1, [], i, h => by
    simp [Tx.digs] at h
    simp [Tx.digs]
  | k + 1, c :: r, i, h => by
    unfold Tx.digs at h ⊢
    by_cases hc : Tx.isDg c = true
    · rw [if_pos hc] at h ⊢
      cases i with
      | zero => simp [hc]
      | succ i =>
        have ih := digs_at k r i (by simpa using h)
        simp only [List.length_cons, Nat.add_lt_add_iff_right, List.getElem?_cons_succ]
        exact ih
    · rw [if_neg hc] at h ⊢
      have : i = 0 := by simpa using h
      subst this
      simp [hc]
theorem digs_take : ∀ (k : Nat) (cs : List Nat), Tx.digs k cs = cs.take (Tx.digs k cs).length
  | 0, cs => by simp [Tx.digs]
  | k + 1, [] => by simp [Tx.digs]
  | k + 1, c :: r => by
    have ih := digs_take k r
    by_cases hc : Tx.isDg c = true
    · have e : Tx.digs (k + 1) (c :: r) = c :: Tx.digs k r := by
        show (if Tx.isDg c = true then c :: Tx.digs k r else []) = _
        rw [if_pos hc]
      rw [e, List.length_cons, List.take_succ_cons, ← ih]
    · have e : Tx.digs (k + 1) (c :: r) = [] := by
        show (if Tx.isDg c = true then c :: Tx.digs k r else []) = _
        rw [if_neg hc]
      rw [e]
      rfl
theorem rdU_zero (neg : Bool) (r : List Nat) (p : Nat) : Tx.rdU neg (48 :: r) p = if neg = true then .bad p else .ok (.int 0) r (p + 1) := rfl
theorem rdU_other (neg : Bool) (cs : List Nat) (p : Nat) (h : ∀ r, cs ≠ 48 :: r) : Tx.rdU neg cs p = if Tx.digs 30 cs = [] then .bad p else .ok (.int (if neg = true then -((NumText.digitsVal (Tx.digs 30 cs) : Nat) : Int) else ((NumText.digitsVal (Tx.digs 30 cs) : Nat) : Int))) (Tx.afterD cs) (p + (Tx.digs 30 cs).length) := by
  unfold Tx.rdU
  split
  · exact absurd rfl (h _)
  · rfl
theorem rdI_pos (cs : List Nat) (p : Nat) (h : ∀ r, cs ≠ 45 :: r) : Tx.rdI cs p = Tx.rdU false cs p := by
  unfold Tx.rdI
  split
  · exact absurd rfl (h _)
  · rfl
theorem int_digs {ds : List Nat} (h : NumText.AllDigits ds) (h1 : ds ≠ []) (hl : ds.length ≤ 600) (neg : Bool) :
    PySem.intText? (S ((if neg = true then [45] else []) ++ ds)) = some (if neg = true then -((NumText.digitsVal ds : Nat) : Int) else ((NumText.digitsVal ds : Nat) : Int)) := by
  cases neg with
  | false => exact PySem.intText_digits (x := S ds) h h1 (by rw [SX.S_len]; omega)
  | true => exact PySem.intText_neg (x := S (45 :: ds)) (cs := ds) rfl h h1 (by rw [SX.S_len]; simp only [List.length_cons]; omega)
end KB
set_option Elab.async false
set_option linter.all false
set_option maxRecDepth 100000
set_option maxHeartbeats 4000000
/-! a value == 0; a tuple == () -/
namespace PySem
namespace EqZ
open SeqAt MeetsSeq MeetsSeq2 MeetsSeq3 SeqRoads2
theorem dict_eq_declines_int (l : Addr) (es : Array DictEntry) (ep : Nat) (dd : Option Addr) (sl : Array (Option Value)) (b : Int) (u : Tok) :
    Meets (Builtin.«dict.__eq__» ⟨[.ref l, .int b u], []⟩) (fun _ R s => s.heap.get? l = some { cls := .type "dict", dict := dd, data := .dict es ep, slots := sl } ∧ R (.ok (.ret .notImplemented)) s) :=
  .of_wp fun prog w A R s h => by obtain ⟨hp, g, d, tk, os⟩ := s; obtain ⟨hl, h⟩ := h; have f1 := F.sub_int_dict; wp_walk using wpAny_loadPart' hl, wpAny_load hl; exact ⟨_, rfl, h⟩
theorem int_eq_declines_dict (b : Int) (u : Tok) (l : Addr) (es : Array DictEntry) (ep : Nat) (dd : Option Addr) (sl : Array (Option Value)) :
    Meets (Builtin.«int.__eq__» ⟨[.int b u, .ref l], []⟩) (fun _ R s => s.heap.get? l = some { cls := .type "dict", dict := dd, data := .dict es ep, slots := sl } ∧ R (.ok (.ret .notImplemented)) s) :=
  .of_wp fun prog w A R s h => by obtain ⟨hp, g, d, tk, os⟩ := s; obtain ⟨hl, h⟩ := h; wp_walk using wpAny_loadPart' hl, wpAny_load hl; exact ⟨_, rfl, h⟩
variable {A : Around} {s : Shared}
theorem rc_dict_int {l : Addr} {es : Array DictEntry} {ep : Nat} {dd : Option Addr} {sl : Array (Option Value)} (b : Int) (u : Tok) (ho : s.heap.get? l = some { cls := .type "dict", dict := dd, data := .dict es ep, slots := sl }) (hu : A.units < cLine) : RcAt A s (.ref l) (.int b u) false := fun prog w E Q h =>
  rc_eq_decline_or (k := false) ⟨_, ho, rfl⟩ (typeIs_int s b u) (by decide) F.sub_int_dict F.slot_dict_eq F.slot_int_eq_refl
    (fun _ hq => call_meets F.slot_dict_eq ⟨_, ho, rfl⟩ F.entry_dict_eq (F.args_dict_eq_2 _ _) (dict_eq_declines_int l es ep dd sl b u) ⟨ho, hq⟩)
    (fun _ hq => call_meets F.slot_int_eq_refl (typeIs_int s b u) F.entry_int_eq (F.args_int_eq_2 _ _) (int_eq_declines_dict b u l es ep dd sl) ⟨ho, hq⟩)
    (fun _ hq => wpAny_of_eq (rfl : isSame (.ref l) (.int b u) = pure false) hq) (.inr hu) h
end EqZ
end PySem
namespace KB
open PySem PySem.Spec PyProof.Rows L2
open SX (S)
section
variable {X : Cx}
/-- any value against a number -/
def rEqZ : R2 := fun x y H Q => ∃ i : Int, y = .int i ∧ ((∃ j, x = .int j ∧ Q (.bl (decide (j = i))) H) ∨ (x = .non ∧ Q (.bl false) H) ∨ (∃ l, x = .str l ∧ Q (.bl false) H) ∨
  (∃ a o, x = .ref a ∧ H a = some o ∧ ((∃ xs, o = .lst xs) ∨ (∃ xs, o = .tup xs) ∨ ∃ kvs, o = .dK kvs) ∧ Q (.bl false) H))
theorem op_eqZ (hu : X.A.units < cLine) : OpR X (compareOp .Eq) rEqZ := by
  intro pins s σ H x y v u Q I rx ry h
  obtain ⟨i, rfl, h⟩ := h
  obtain ⟨t, rfl⟩ := ry
  rcases h with ⟨j, rfl, q⟩ | ⟨rfl, q⟩ | ⟨l, rfl, q⟩ | ⟨a, o, rfl, ho, hk, q⟩
  · obtain ⟨t', rfl⟩ := rx
    exact SeqAt.RcAt.int_int j t' i t X.prog X.w _ _ ⟨.bl (decide (j = i)), H, I, (by show Value.bool _ = Value.bool _; congr 1), q⟩
  · cases rx
    exact SeqAt.RcAt.none_int i t X.prog X.w _ _ ⟨.bl false, H, I, rfl, q⟩
  · obtain ⟨t', rfl⟩ := rx
    exact SeqAt.RcAt.str_int l t' i t X.prog X.w _ _ ⟨.bl false, H, I, rfl, q⟩
  · cases rx
    rcases hk with ⟨xs, rfl⟩ | ⟨xs, rfl⟩ | ⟨kvs, rfl⟩
    · obtain ⟨its, r, pl, _⟩ := I.list (SqL.of ho)
      exact SeqAt.RcAt.list_int i t pl.isList hu X.prog X.w _ _ ⟨.bl false, H, I, rfl, q⟩
    · obtain ⟨its, r, pl, _⟩ := I.tuple (SqT.of ho)
      exact SeqAt.RcAt.tuple_int i t pl hu X.prog X.w _ _ ⟨.bl false, H, I, rfl, q⟩
    · obtain ⟨_, _, vs, _, o, es, ep, ho', hx, hd, _⟩ := dk_of I.hok ho
      obtain ⟨oc, od, dt, sl⟩ := o
      dsimp only at hd
      subst hd
      have hc : oc = .type "dict" := hx.1
      subst hc
      exact EqZ.rc_dict_int i t ho' hu X.prog X.w _ _ ⟨.bl false, H, I, rfl, q⟩
/-- a tuple against () -/
def rEqE : R2 := fun x y H Q => ∃ a b xs, x = .ref a ∧ y = .ref b ∧ H a = some (.tup xs) ∧ H b = some (.tup []) ∧ Q (.bl (decide (xs.length = 0))) H
theorem op_eqE (hu : X.A.units < cLine) : OpR X (compareOp .Eq) rEqE := by
  intro pins s σ H x y v u Q I rx ry h
  obtain ⟨a, b, xs, rfl, rfl, ha, hb, q⟩ := h
  cases rx
  cases ry
  obtain ⟨its, r, pl, _⟩ := I.tuple (SqT.of ha)
  obtain ⟨its2, r2, pl2, _⟩ := I.tuple (SqT.of hb)
  cases r2
  refine SeqAt.eq_tupleAt (e := fun _ => true) pl pl2 hu (fun j h1 h2 => absurd h2 (by simp)) ⟨.bl _, H, I, ?_, q⟩
  show Value.bool _ = Value.bool _
  have hl := r.length
  congr 1
  simp only [List.size_toArray, List.length_nil, Nat.min_zero, List.range_zero, List.all_nil, Bool.true_and]
  rw [← hl]
  cases h : (xs.length == 0) <;> simp_all
end
end KB
set_option Elab.async false
set_option linter.all false
set_option maxRecDepth 100000
set_option maxHeartbeats 0
namespace K54
open PySem PySem.Spec PyProof.Rows L2
def top (i : Nat) : Stmt := PySem.Challenge.pw_keptmisses_k54_whole_things_as_texts.main.body.getD i (.Pass ⟨0, 0, 0, 0⟩)
abbrev s_is_integer : Stmt := top 5
abbrev s_is_sign : Stmt := top 13
abbrev s_is_signs : Stmt := top 14
abbrev s_is_thing : Stmt := top 15
abbrev s_raw_packed : Stmt := top 16
abbrev s_thing_text : Stmt := top 17
abbrev s_Reader : Stmt := top 18
abbrev s_Reader_init : Stmt := inClass (top 18) 0
abbrev s_Reader_wrong : Stmt := inClass (top 18) 1
abbrev s_Reader_sign : Stmt := inClass (top 18) 2
abbrev s_Reader_figures : Stmt := inClass (top 18) 3
abbrev s_Reader_integer : Stmt := inClass (top 18) 4
abbrev s_Reader_string : Stmt := inClass (top 18) 5
abbrev s_Reader_plain : Stmt := inClass (top 18) 6
abbrev s_Reader_enter_tuples : Stmt := inClass (top 18) 7
abbrev s_Reader_read : Stmt := inClass (top 18) 8
abbrev s_read_thing : Stmt := top 19
abbrev s_law_hand : Stmt := top 21
abbrev s_law_draw : Stmt := top 22
abbrev s_law_any : Stmt := top 23
abbrev s_law_word : Stmt := top 24
abbrev s_law_thing : Stmt := top 25
abbrev s_law_nested : Stmt := top 26
abbrev s_law_packed : Stmt := top 27
abbrev s_law_first_wrong : Stmt := top 28
abbrev s_law_read_string : Stmt := top 29
abbrev s_law_read_integer : Stmt := top 30
abbrev s_law_read_tuple : Stmt := top 31
abbrev s_law_unpacked : Stmt := top 32
abbrev s_law_changed : Stmt := top 33
abbrev s_law_deep : Stmt := top 34
abbrev s_law_told : Stmt := top 35
abbrev s_law_is_none : Stmt := top 36
abbrev s_law_is_plain : Stmt := top 37
abbrev s_law : Stmt := top 38

def d_is_integer : He.DefD := ⟨("is_integer", none), "is_integer", "is_integer", defArgs s_is_integer, defBody s_is_integer, defScope s_is_integer, [], []⟩
def d_is_sign : He.DefD := ⟨("is_sign", none), "is_sign", "is_sign", defArgs s_is_sign, defBody s_is_sign, defScope s_is_sign, [], []⟩
def d_is_signs : He.DefD := ⟨("is_signs", none), "is_signs", "is_signs", defArgs s_is_signs, defBody s_is_signs, defScope s_is_signs, [], []⟩
def d_is_thing : He.DefD := ⟨("is_thing", none), "is_thing", "is_thing", defArgs s_is_thing, defBody s_is_thing, defScope s_is_thing, [], []⟩
def d_raw_packed : He.DefD := ⟨("raw_packed", none), "raw_packed", "raw_packed", defArgs s_raw_packed, defBody s_raw_packed, defScope s_raw_packed, [], []⟩
def d_thing_text : He.DefD := ⟨("thing_text", none), "thing_text", "thing_text", defArgs s_thing_text, defBody s_thing_text, defScope s_thing_text, [], []⟩
def d_Reader_init : He.DefD := ⟨("Reader", some "__init__"), "__init__", "Reader.__init__", defArgs s_Reader_init, defBody s_Reader_init, defScope s_Reader_init, [], []⟩
def d_Reader_wrong : He.DefD := ⟨("Reader", some "wrong"), "wrong", "Reader.wrong", defArgs s_Reader_wrong, defBody s_Reader_wrong, defScope s_Reader_wrong, [], []⟩
def d_Reader_sign : He.DefD := ⟨("Reader", some "sign"), "sign", "Reader.sign", defArgs s_Reader_sign, defBody s_Reader_sign, defScope s_Reader_sign, [], []⟩
def d_Reader_figures : He.DefD := ⟨("Reader", some "figures"), "figures", "Reader.figures", defArgs s_Reader_figures, defBody s_Reader_figures, defScope s_Reader_figures, [], []⟩
def d_Reader_integer : He.DefD := ⟨("Reader", some "integer"), "integer", "Reader.integer", defArgs s_Reader_integer, defBody s_Reader_integer, defScope s_Reader_integer, [], []⟩
def d_Reader_string : He.DefD := ⟨("Reader", some "string"), "string", "Reader.string", defArgs s_Reader_string, defBody s_Reader_string, defScope s_Reader_string, [], []⟩
def d_Reader_plain : He.DefD := ⟨("Reader", some "plain"), "plain", "Reader.plain", defArgs s_Reader_plain, defBody s_Reader_plain, defScope s_Reader_plain, [], []⟩
def d_Reader_enter_tuples : He.DefD := ⟨("Reader", some "enter_tuples"), "enter_tuples", "Reader.enter_tuples", defArgs s_Reader_enter_tuples, defBody s_Reader_enter_tuples, defScope s_Reader_enter_tuples, [], []⟩
def d_Reader_read : He.DefD := ⟨("Reader", some "read"), "read", "Reader.read", defArgs s_Reader_read, defBody s_Reader_read, defScope s_Reader_read, [], []⟩
def d_read_thing : He.DefD := ⟨("read_thing", none), "read_thing", "read_thing", defArgs s_read_thing, defBody s_read_thing, defScope s_read_thing, [], []⟩
def d_law_hand : He.DefD := ⟨("_law_hand", none), "_law_hand", "_law_hand", defArgs s_law_hand, defBody s_law_hand, defScope s_law_hand, [], []⟩
def d_law_draw : He.DefD := ⟨("_law_draw", none), "_law_draw", "_law_draw", defArgs s_law_draw, defBody s_law_draw, defScope s_law_draw, [], []⟩
def d_law_any : He.DefD := ⟨("_law_any", none), "_law_any", "_law_any", defArgs s_law_any, defBody s_law_any, defScope s_law_any, [], []⟩
def d_law_word : He.DefD := ⟨("_law_word", none), "_law_word", "_law_word", defArgs s_law_word, defBody s_law_word, defScope s_law_word, [], []⟩
def d_law_thing : He.DefD := ⟨("_law_thing", none), "_law_thing", "_law_thing", defArgs s_law_thing, defBody s_law_thing, defScope s_law_thing, [], []⟩
def d_law_nested : He.DefD := ⟨("_law_nested", none), "_law_nested", "_law_nested", defArgs s_law_nested, defBody s_law_nested, defScope s_law_nested, [], []⟩
def d_law_packed : He.DefD := ⟨("_law_packed", none), "_law_packed", "_law_packed", defArgs s_law_packed, defBody s_law_packed, defScope s_law_packed, [], []⟩
def d_law_first_wrong : He.DefD := ⟨("_law_first_wrong", none), "_law_first_wrong", "_law_first_wrong", defArgs s_law_first_wrong, defBody s_law_first_wrong, defScope s_law_first_wrong, [], []⟩
def d_law_read_string : He.DefD := ⟨("_law_read_string", none), "_law_read_string", "_law_read_string", defArgs s_law_read_string, defBody s_law_read_string, defScope s_law_read_string, [], []⟩
def d_law_read_integer : He.DefD := ⟨("_law_read_integer", none), "_law_read_integer", "_law_read_integer", defArgs s_law_read_integer, defBody s_law_read_integer, defScope s_law_read_integer, [], []⟩
def d_law_read_tuple : He.DefD := ⟨("_law_read_tuple", none), "_law_read_tuple", "_law_read_tuple", defArgs s_law_read_tuple, defBody s_law_read_tuple, defScope s_law_read_tuple, [], []⟩
def d_law_unpacked : He.DefD := ⟨("_law_unpacked", none), "_law_unpacked", "_law_unpacked", defArgs s_law_unpacked, defBody s_law_unpacked, defScope s_law_unpacked, [], []⟩
def d_law_changed : He.DefD := ⟨("_law_changed", none), "_law_changed", "_law_changed", defArgs s_law_changed, defBody s_law_changed, defScope s_law_changed, [], []⟩
def d_law_deep : He.DefD := ⟨("_law_deep", none), "_law_deep", "_law_deep", defArgs s_law_deep, defBody s_law_deep, defScope s_law_deep, [], []⟩
def d_law_told : He.DefD := ⟨("_law_told", none), "_law_told", "_law_told", defArgs s_law_told, defBody s_law_told, defScope s_law_told, [], []⟩
def d_law_is_none : He.DefD := ⟨("_law_is_none", none), "_law_is_none", "_law_is_none", defArgs s_law_is_none, defBody s_law_is_none, defScope s_law_is_none, [], []⟩
def d_law_is_plain : He.DefD := ⟨("_law_is_plain", none), "_law_is_plain", "_law_is_plain", defArgs s_law_is_plain, defBody s_law_is_plain, defScope s_law_is_plain, [], []⟩
def d_law : He.DefD := ⟨("law", none), "law", "law", defArgs s_law, defBody s_law, defScope s_law, [], []⟩
def fn : List He.DefD := ([d_is_integer, d_is_sign, d_is_signs, d_is_thing, d_raw_packed, d_thing_text, d_Reader_init, d_Reader_wrong, d_Reader_sign, d_Reader_figures, d_Reader_integer, d_Reader_string] : List He.DefD) ++ ([d_Reader_plain, d_Reader_enter_tuples, d_Reader_read, d_read_thing, d_law_hand, d_law_draw, d_law_any, d_law_word, d_law_thing, d_law_nested, d_law_packed, d_law_first_wrong] : List He.DefD) ++ ([d_law_read_string, d_law_read_integer, d_law_read_tuple, d_law_unpacked, d_law_changed, d_law_deep, d_law_told, d_law_is_none, d_law_is_plain, d_law] : List He.DefD)
def fa : List He.Fa := ([.glo "MissError", .exc "MissError", .glo "NoThing", .exc "NoThing", .glo "BadText", .glo "is_integer", .int "MOST_DEEP" 30, .int "MOST_DIGITS" 30, .int "GREATEST" 999999999999999999999999999999, .str "FIGURES" "0123456789", .str "QUOTE" "'", .str "ESCAPE" "~"] : List He.Fa) ++ ([.glo "is_sign", .glo "is_signs", .glo "is_thing", .glo "raw_packed", .glo "thing_text", .glo "Reader", .cls "Reader", .mkr "Reader", .meth "Reader" "wrong", .meth "Reader" "sign", .meth "Reader" "figures", .meth "Reader" "integer"] : List He.Fa) ++ ([.meth "Reader" "string", .meth "Reader" "plain", .meth "Reader" "enter_tuples", .meth "Reader" "read", .noat "Reader" "levels", .noat "Reader" "place", .noat "Reader" "text", .glo "read_thing", .glo "_law_hand", .glo "_law_draw", .glo "_law_any", .glo "_law_word"] : List He.Fa) ++ ([.glo "_law_thing", .glo "_law_nested", .glo "_law_packed", .glo "_law_first_wrong", .glo "_law_read_string", .glo "_law_read_integer", .glo "_law_read_tuple", .glo "_law_unpacked", .glo "_law_changed", .glo "_law_deep", .glo "_law_told", .glo "_law_is_none"] : List He.Fa) ++ ([.glo "_law_is_plain", .glo "law", .free "super", .free "abs", .free "all", .free "bool", .free "int", .free "isinstance", .free "len", .free "range", .free "str", .free "tuple"] : List He.Fa)
def loose : List Str := (["MissError", "NoThing", "BadText", "is_integer", "MOST_DEEP", "MOST_DIGITS", "GREATEST", "FIGURES", "QUOTE", "ESCAPE", "is_sign", "is_signs"] : List Str) ++ (["is_thing", "raw_packed", "thing_text", "Reader", "read_thing", "_law_hand", "_law_draw", "_law_any", "_law_word", "_law_thing", "_law_nested", "_law_packed"] : List Str) ++ (["_law_first_wrong", "_law_read_string", "_law_read_integer", "_law_read_tuple", "_law_unpacked", "_law_changed", "_law_deep", "_law_told", "_law_is_none", "_law_is_plain"] : List Str)
-- law at 38 loose 34 exceptions ['BadText', 'MissError', 'NoThing']
abbrev RL := PySem.Challenge.rw_keptmisses_k54_whole_things_as_texts
abbrev R : PySem.W.OpenRow := PySem.W.OpenLaw.row RL
abbrev s_BadText_init : Stmt := inClass (top 3) 0
abbrev PP : Program := RL.prog
abbrev pB : Str × Option Str := ("BadText", some "__init__")
def ex : PySem.W.Frag → Bool := fun K => HB.badB PP.main.file K (He.ga K "BadText") (He.fAd K pB) && HB.errB K
def vB : List HB.FnI := [(some (("__init__" : Str), ("BadText.__init__" : Str), defArgs s_BadText_init, FuncBody.stmts (defBody s_BadText_init), defScope s_BadText_init, mainGlobals, [("__class__" : Str)], builtinsNs) : HB.FnI)]
abbrev hk : PySem.W.Hook := HB.hookB 5 fa fn ex [pB] vB
def ob (s : PySem.W.SharedT) : HB.Al := HB.obsB 5 fa fn ex [pB] (HandSHeadRun.getT s)
theorem ob_eq (s : PySem.W.SharedT) : ob s = hk.obs s.abs := HB.obsB_eq (HandSHeadRun.getT_eq s)
theorem run (w : World) : HandSHeadRun.RunEq R (PySem.W.view R.prog [38]) hk ob 4000 loose w := by
  intro os
  kernel_rfl
abbrev aBad (K : PySem.W.Frag) : Addr := He.ga K "BadText"
/-- what the error's class says -/
theorem bad_txt {K : PySem.W.Frag} {mg : Str → Option Value} (c : HB.SaysB fa fn ex [pB] vB K) (gC : mg "BadText" = some (.ref (aBad K))) (nS : mg "super" = none) : PySem.BadX.BadTxt PP K mg (aBad K) (He.fAd K pB) := by
  have h := c.more
  unfold ex at h
  rw [Bool.and_eq_true] at h
  have e := (List.cons.inj c.fi).1
  exact HB.badB_ok (a1 := _) (a2 := _) (r1 := _) (r2 := _) (r3 := _) (r4 := _) (r5 := _) (r6 := _) (q1 := _) (q2 := _) (q3 := _) (q4 := _) h.1 gC nS (by rfl) e (fun env => ⟨_, rfl⟩)
theorem errs {K : PySem.W.Frag} (c : HB.SaysB fa fn ex [pB] vB K) : HB.Errs K := by
  have h := c.more
  unfold ex at h
  rw [Bool.and_eq_true] at h
  exact HB.errB_ok h.2
end K54
--@law law_k54_whole_things_as_texts h54.json
set_option Elab.async false
set_option linter.all false
set_option maxRecDepth 100000
set_option maxHeartbeats 4000000
namespace K54
open PySem PySem.Spec PyProof.Rows L2 KB
open SX (S)
abbrev C54 := Ctx fa fn ex
abbrev N_is_integer : List Str := ["thing"]
abbrev P_is_integer : List Str := ["thing"]
theorem sc_is_integer : FnScope N_is_integer P_is_integer (defScope s_is_integer) := ⟨rfl, rfl, rfl, by decide +kernel, rfl, by decide +kernel, by decide +kernel⟩
theorem bd_is_integer : BindP s_is_integer P_is_integer := fun _ _ _ _ _ _ _ _ us hl => match us, hl with | [_], _ => rfl
abbrev N_is_sign : List Str := ["sign"]
abbrev P_is_sign : List Str := ["sign"]
theorem sc_is_sign : FnScope N_is_sign P_is_sign (defScope s_is_sign) := ⟨rfl, rfl, rfl, by decide +kernel, rfl, by decide +kernel, by decide +kernel⟩
theorem bd_is_sign : BindP s_is_sign P_is_sign := fun _ _ _ _ _ _ _ _ us hl => match us, hl with | [_], _ => rfl
abbrev N_is_signs : List Str := ["thing", "sign"]
abbrev P_is_signs : List Str := ["thing"]
theorem sc_is_signs : FnScope N_is_signs P_is_signs (defScope s_is_signs) := ⟨rfl, rfl, rfl, by decide +kernel, rfl, by decide +kernel, by decide +kernel⟩
theorem bd_is_signs : BindP s_is_signs P_is_signs := fun _ _ _ _ _ _ _ _ us hl => match us, hl with | [_], _ => rfl
abbrev N_is_thing : List Str := ["thing", "deep", "item"]
abbrev P_is_thing : List Str := ["thing", "deep"]
theorem sc_is_thing : FnScope N_is_thing P_is_thing (defScope s_is_thing) := ⟨rfl, rfl, rfl, by decide +kernel, rfl, by decide +kernel, by decide +kernel⟩
theorem bd_is_thing : BindP s_is_thing P_is_thing := fun _ _ _ _ _ _ _ _ us hl => match us, hl with | [_, _], _ => rfl
abbrev N_raw_packed : List Str := ["thing", "sign", "item"]
abbrev P_raw_packed : List Str := ["thing"]
theorem sc_raw_packed : FnScope N_raw_packed P_raw_packed (defScope s_raw_packed) := ⟨rfl, rfl, rfl, by decide +kernel, rfl, by decide +kernel, by decide +kernel⟩
theorem bd_raw_packed : BindP s_raw_packed P_raw_packed := fun _ _ _ _ _ _ _ _ us hl => match us, hl with | [_], _ => rfl
abbrev N_thing_text : List Str := ["thing"]
abbrev P_thing_text : List Str := ["thing"]
theorem sc_thing_text : FnScope N_thing_text P_thing_text (defScope s_thing_text) := ⟨rfl, rfl, rfl, by decide +kernel, rfl, by decide +kernel, by decide +kernel⟩
theorem bd_thing_text : BindP s_thing_text P_thing_text := fun _ _ _ _ _ _ _ _ us hl => match us, hl with | [_], _ => rfl
abbrev N_Reader_init : List Str := ["self", "text"]
abbrev P_Reader_init : List Str := ["self", "text"]
theorem sc_Reader_init : FnScope N_Reader_init P_Reader_init (defScope s_Reader_init) := ⟨rfl, rfl, rfl, by decide +kernel, rfl, by decide +kernel, by decide +kernel⟩
theorem bd_Reader_init : BindP s_Reader_init P_Reader_init := fun _ _ _ _ _ _ _ _ us hl => match us, hl with | [_, _], _ => rfl
abbrev N_Reader_wrong : List Str := ["self"]
abbrev P_Reader_wrong : List Str := ["self"]
theorem sc_Reader_wrong : FnScope N_Reader_wrong P_Reader_wrong (defScope s_Reader_wrong) := ⟨rfl, rfl, rfl, by decide +kernel, rfl, by decide +kernel, by decide +kernel⟩
theorem bd_Reader_wrong : BindP s_Reader_wrong P_Reader_wrong := fun _ _ _ _ _ _ _ _ us hl => match us, hl with | [_], _ => rfl
abbrev N_Reader_sign : List Str := ["self"]
abbrev P_Reader_sign : List Str := ["self"]
theorem sc_Reader_sign : FnScope N_Reader_sign P_Reader_sign (defScope s_Reader_sign) := ⟨rfl, rfl, rfl, by decide +kernel, rfl, by decide +kernel, by decide +kernel⟩
theorem bd_Reader_sign : BindP s_Reader_sign P_Reader_sign := fun _ _ _ _ _ _ _ _ us hl => match us, hl with | [_], _ => rfl
abbrev N_Reader_figures : List Str := ["self", "begin"]
abbrev P_Reader_figures : List Str := ["self"]
theorem sc_Reader_figures : FnScope N_Reader_figures P_Reader_figures (defScope s_Reader_figures) := ⟨rfl, rfl, rfl, by decide +kernel, rfl, by decide +kernel, by decide +kernel⟩
theorem bd_Reader_figures : BindP s_Reader_figures P_Reader_figures := fun _ _ _ _ _ _ _ _ us hl => match us, hl with | [_], _ => rfl
abbrev N_Reader_integer : List Str := ["self", "ahead", "told"]
abbrev P_Reader_integer : List Str := ["self"]
theorem sc_Reader_integer : FnScope N_Reader_integer P_Reader_integer (defScope s_Reader_integer) := ⟨rfl, rfl, rfl, by decide +kernel, rfl, by decide +kernel, by decide +kernel⟩
theorem bd_Reader_integer : BindP s_Reader_integer P_Reader_integer := fun _ _ _ _ _ _ _ _ us hl => match us, hl with | [_], _ => rfl
abbrev N_Reader_string : List Str := ["self", "found"]
abbrev P_Reader_string : List Str := ["self"]
theorem sc_Reader_string : FnScope N_Reader_string P_Reader_string (defScope s_Reader_string) := ⟨rfl, rfl, rfl, by decide +kernel, rfl, by decide +kernel, by decide +kernel⟩
theorem bd_Reader_string : BindP s_Reader_string P_Reader_string := fun _ _ _ _ _ _ _ _ us hl => match us, hl with | [_], _ => rfl
abbrev N_Reader_plain : List Str := ["self"]
abbrev P_Reader_plain : List Str := ["self"]
theorem sc_Reader_plain : FnScope N_Reader_plain P_Reader_plain (defScope s_Reader_plain) := ⟨rfl, rfl, rfl, by decide +kernel, rfl, by decide +kernel, by decide +kernel⟩
theorem bd_Reader_plain : BindP s_Reader_plain P_Reader_plain := fun _ _ _ _ _ _ _ _ us hl => match us, hl with | [_], _ => rfl
abbrev N_Reader_enter_tuples : List Str := ["self"]
abbrev P_Reader_enter_tuples : List Str := ["self"]
theorem sc_Reader_enter_tuples : FnScope N_Reader_enter_tuples P_Reader_enter_tuples (defScope s_Reader_enter_tuples) := ⟨rfl, rfl, rfl, by decide +kernel, rfl, by decide +kernel, by decide +kernel⟩
theorem bd_Reader_enter_tuples : BindP s_Reader_enter_tuples P_Reader_enter_tuples := fun _ _ _ _ _ _ _ _ us hl => match us, hl with | [_], _ => rfl
abbrev N_Reader_read : List Str := ["self", "told"]
abbrev P_Reader_read : List Str := ["self"]
theorem sc_Reader_read : FnScope N_Reader_read P_Reader_read (defScope s_Reader_read) := ⟨rfl, rfl, rfl, by decide +kernel, rfl, by decide +kernel, by decide +kernel⟩
theorem bd_Reader_read : BindP s_Reader_read P_Reader_read := fun _ _ _ _ _ _ _ _ us hl => match us, hl with | [_], _ => rfl
abbrev N_read_thing : List Str := ["text"]
abbrev P_read_thing : List Str := ["text"]
theorem sc_read_thing : FnScope N_read_thing P_read_thing (defScope s_read_thing) := ⟨rfl, rfl, rfl, by decide +kernel, rfl, by decide +kernel, by decide +kernel⟩
theorem bd_read_thing : BindP s_read_thing P_read_thing := fun _ _ _ _ _ _ _ _ us hl => match us, hl with | [_], _ => rfl
abbrev N_law_hand : List Str := ["_law_script", "_law_cells", "_law_cell"]
abbrev P_law_hand : List Str := ["_law_script"]
theorem sc_law_hand : FnScope N_law_hand P_law_hand (defScope s_law_hand) := ⟨rfl, rfl, rfl, by decide +kernel, rfl, by decide +kernel, by decide +kernel⟩
theorem bd_law_hand : BindP s_law_hand P_law_hand := fun _ _ _ _ _ _ _ _ us hl => match us, hl with | [_], _ => rfl
abbrev N_law_draw : List Str := ["_law_hand_here", "_law_many", "_law_number", "_law_cell", "_law_digit"]
abbrev P_law_draw : List Str := ["_law_hand_here", "_law_many"]
theorem sc_law_draw : FnScope N_law_draw P_law_draw (defScope s_law_draw) := ⟨rfl, rfl, rfl, by decide +kernel, rfl, by decide +kernel, by decide +kernel⟩
theorem bd_law_draw : BindP s_law_draw P_law_draw := fun _ _ _ _ _ _ _ _ us hl => match us, hl with | [_, _], _ => rfl
abbrev N_law_any : List Str := ["_law_hand_here", "_law_things"]
abbrev P_law_any : List Str := ["_law_hand_here", "_law_things"]
theorem sc_law_any : FnScope N_law_any P_law_any (defScope s_law_any) := ⟨rfl, rfl, rfl, by decide +kernel, rfl, by decide +kernel, by decide +kernel⟩
theorem bd_law_any : BindP s_law_any P_law_any := fun _ _ _ _ _ _ _ _ us hl => match us, hl with | [_, _], _ => rfl
abbrev N_law_word : List Str := ["_law_hand_here", "_law_signs", "_law_k"]
abbrev P_law_word : List Str := ["_law_hand_here"]
theorem sc_law_word : FnScope N_law_word P_law_word (defScope s_law_word) := ⟨rfl, rfl, rfl, by decide +kernel, rfl, by decide +kernel, by decide +kernel⟩
theorem bd_law_word : BindP s_law_word P_law_word := fun _ _ _ _ _ _ _ _ us hl => match us, hl with | [_], _ => rfl
abbrev N_law_thing : List Str := ["_law_hand_here", "_law_deep_here", "_law_kind", "_law_k"]
abbrev P_law_thing : List Str := ["_law_hand_here", "_law_deep_here"]
theorem sc_law_thing : FnScope N_law_thing P_law_thing (defScope s_law_thing) := ⟨rfl, rfl, rfl, by decide +kernel, rfl, by decide +kernel, by decide +kernel⟩
theorem bd_law_thing : BindP s_law_thing P_law_thing := fun _ _ _ _ _ _ _ _ us hl => match us, hl with | [_, _], _ => rfl
abbrev N_law_nested : List Str := ["_law_hand_here", "_law_many", "_law_found", "_law_k"]
abbrev P_law_nested : List Str := ["_law_hand_here", "_law_many"]
theorem sc_law_nested : FnScope N_law_nested P_law_nested (defScope s_law_nested) := ⟨rfl, rfl, rfl, by decide +kernel, rfl, by decide +kernel, by decide +kernel⟩
theorem bd_law_nested : BindP s_law_nested P_law_nested := fun _ _ _ _ _ _ _ _ us hl => match us, hl with | [_, _], _ => rfl
abbrev N_law_packed : List Str := ["_law_thing_here", "_law_one", "_law_sign"]
abbrev P_law_packed : List Str := ["_law_thing_here"]
theorem sc_law_packed : FnScope N_law_packed P_law_packed (defScope s_law_packed) := ⟨rfl, rfl, rfl, by decide +kernel, rfl, by decide +kernel, by decide +kernel⟩
theorem bd_law_packed : BindP s_law_packed P_law_packed := fun _ _ _ _ _ _ _ _ us hl => match us, hl with | [_], _ => rfl
abbrev N_law_first_wrong : List Str := ["_law_text", "_law_at", "_law_deep_here", "_law_sign"]
abbrev P_law_first_wrong : List Str := ["_law_text", "_law_at", "_law_deep_here"]
theorem sc_law_first_wrong : FnScope N_law_first_wrong P_law_first_wrong (defScope s_law_first_wrong) := ⟨rfl, rfl, rfl, by decide +kernel, rfl, by decide +kernel, by decide +kernel⟩
theorem bd_law_first_wrong : BindP s_law_first_wrong P_law_first_wrong := fun _ _ _ _ _ _ _ _ us hl => match us, hl with | [_, _, _], _ => rfl
abbrev N_law_read_string : List Str := ["_law_text", "_law_at", "_law_found", "_law_sign"]
abbrev P_law_read_string : List Str := ["_law_text", "_law_at"]
theorem sc_law_read_string : FnScope N_law_read_string P_law_read_string (defScope s_law_read_string) := ⟨rfl, rfl, rfl, by decide +kernel, rfl, by decide +kernel, by decide +kernel⟩
theorem bd_law_read_string : BindP s_law_read_string P_law_read_string := fun _ _ _ _ _ _ _ _ us hl => match us, hl with | [_, _], _ => rfl
abbrev N_law_read_integer : List Str := ["_law_text", "_law_at", "_law_begin", "_law_first"]
abbrev P_law_read_integer : List Str := ["_law_text", "_law_at"]
theorem sc_law_read_integer : FnScope N_law_read_integer P_law_read_integer (defScope s_law_read_integer) := ⟨rfl, rfl, rfl, by decide +kernel, rfl, by decide +kernel, by decide +kernel⟩
theorem bd_law_read_integer : BindP s_law_read_integer P_law_read_integer := fun _ _ _ _ _ _ _ _ us hl => match us, hl with | [_, _], _ => rfl
abbrev N_law_read_tuple : List Str := ["_law_text", "_law_at", "_law_deep_here", "_law_found", "_law_thing_here", "_law_wrong"]
abbrev P_law_read_tuple : List Str := ["_law_text", "_law_at", "_law_deep_here"]
theorem sc_law_read_tuple : FnScope N_law_read_tuple P_law_read_tuple (defScope s_law_read_tuple) := ⟨rfl, rfl, rfl, by decide +kernel, rfl, by decide +kernel, by decide +kernel⟩
theorem bd_law_read_tuple : BindP s_law_read_tuple P_law_read_tuple := fun _ _ _ _ _ _ _ _ us hl => match us, hl with | [_, _, _], _ => rfl
abbrev N_law_unpacked : List Str := ["_law_text", "_law_thing_here", "_law_at", "_law_wrong"]
abbrev P_law_unpacked : List Str := ["_law_text"]
theorem sc_law_unpacked : FnScope N_law_unpacked P_law_unpacked (defScope s_law_unpacked) := ⟨rfl, rfl, rfl, by decide +kernel, rfl, by decide +kernel, by decide +kernel⟩
theorem bd_law_unpacked : BindP s_law_unpacked P_law_unpacked := fun _ _ _ _ _ _ _ _ us hl => match us, hl with | [_], _ => rfl
abbrev N_law_changed : List Str := ["_law_hand_here", "_law_text", "_law_at", "_law_sign", "_law_things"]
abbrev P_law_changed : List Str := ["_law_hand_here", "_law_text"]
theorem sc_law_changed : FnScope N_law_changed P_law_changed (defScope s_law_changed) := ⟨rfl, rfl, rfl, by decide +kernel, rfl, by decide +kernel, by decide +kernel⟩
theorem bd_law_changed : BindP s_law_changed P_law_changed := fun _ _ _ _ _ _ _ _ us hl => match us, hl with | [_, _], _ => rfl
abbrev N_law_deep : List Str := ["_law_hand_here", "_law_found", "_law_turn"]
abbrev P_law_deep : List Str := ["_law_hand_here"]
theorem sc_law_deep : FnScope N_law_deep P_law_deep (defScope s_law_deep) := ⟨rfl, rfl, rfl, by decide +kernel, rfl, by decide +kernel, by decide +kernel⟩
theorem bd_law_deep : BindP s_law_deep P_law_deep := fun _ _ _ _ _ _ _ _ us hl => match us, hl with | [_], _ => rfl
abbrev N_law_told : List Str := ["_law_text", "_law_told_here", "e"]
abbrev P_law_told : List Str := ["_law_text"]
theorem sc_law_told : FnScope N_law_told P_law_told (defScope s_law_told) := ⟨rfl, rfl, rfl, by decide +kernel, rfl, by decide +kernel, by decide +kernel⟩
theorem bd_law_told : BindP s_law_told P_law_told := fun _ _ _ _ _ _ _ _ us hl => match us, hl with | [_], _ => rfl
abbrev N_law_is_none : List Str := ["_law_thing_here", "_law_told_here", "e"]
abbrev P_law_is_none : List Str := ["_law_thing_here"]
theorem sc_law_is_none : FnScope N_law_is_none P_law_is_none (defScope s_law_is_none) := ⟨rfl, rfl, rfl, by decide +kernel, rfl, by decide +kernel, by decide +kernel⟩
theorem bd_law_is_none : BindP s_law_is_none P_law_is_none := fun _ _ _ _ _ _ _ _ us hl => match us, hl with | [_], _ => rfl
abbrev N_law_is_plain : List Str := ["_law_thing_here"]
abbrev P_law_is_plain : List Str := ["_law_thing_here"]
theorem sc_law_is_plain : FnScope N_law_is_plain P_law_is_plain (defScope s_law_is_plain) := ⟨rfl, rfl, rfl, by decide +kernel, rfl, by decide +kernel, by decide +kernel⟩
theorem bd_law_is_plain : BindP s_law_is_plain P_law_is_plain := fun _ _ _ _ _ _ _ _ us hl => match us, hl with | [_], _ => rfl
abbrev N_law : List Str := ["_law_script", "_law_hand_here", "_law_turn", "_law_odd", "_law_wrong", "_law_long", "_law_thing_here", "_law_text", "_law_again", "_law_bent"]
abbrev P_law : List Str := ["_law_script"]
theorem sc_law : FnScope N_law P_law (defScope s_law) := ⟨rfl, rfl, rfl, by decide +kernel, rfl, by decide +kernel, by decide +kernel⟩
theorem bd_law : BindP s_law P_law := fun _ _ _ _ _ _ _ _ us hl => match us, hl with | [_], _ => rfl
end K54
--@law law_k54_whole_things_as_texts h54.json
set_option Elab.async false
set_option linter.all false
set_option maxRecDepth 100000
set_option maxHeartbeats 4000000
namespace K54
open PySem PySem.Spec PyProof.Rows L2 KB
open SX (S)
local macro_rules | `(tactic| walk_at "s") => `(tactic| first
  | with_reducible refine r_seq ?_
  | with_reducible refine r_set ?_
  | ((with_reducible show tVar _ _ _ _); refine r_var rfl ?_)
  | with_reducible refine r_c ?_
  | with_reducible refine r_op ?_
  | with_reducible refine r_cb ?_
  | with_reducible refine r_cons ?_
  | with_reducible refine r_nil ?_
  | with_reducible refine r_test ?_
  | with_reducible refine r_if ?_
  | with_reducible refine r_I0 ?_
  | with_reducible refine r_eqS1 ?_
  | with_reducible refine r_neS1 ?_
  | with_reducible refine r_eqSL ?_
  | with_reducible refine r_neSL ?_
  | with_reducible refine r_eqI ?_
  | ((with_reducible show rEq _ _ _ _); refine r_eq ?_)
  | ((with_reducible show rNe _ _ _ _); refine r_ne ?_)
  | with_reducible refine r_bl ?_
  | with_reducible refine r_blV ?_
  | with_reducible refine r_intV ?_
  | with_reducible refine r_ret ?_
  | with_reducible refine r_next ?_
  | with_reducible refine r_callS ?_
  | with_reducible refine r_call ?_
  | with_reducible refine r_asg ?_
  | with_reducible refine r_drop ?_
  | with_reducible refine r_retN ?_
  | with_reducible refine r_un ?_
  | with_reducible refine r_U ?_
  | with_reducible refine r_tup ?_
  | with_reducible refine r_lst ?_
  | with_reducible refine r_andV ?_
  | with_reducible refine r_orV ?_
  | with_reducible refine r_notV ?_
  | with_reducible refine r_ifE ?_
  | with_reducible refine r_meth ?_
  | with_reducible refine r_make ?_
  | with_reducible refine r_fld ?_
  | with_reducible refine r_sl ?_
  | with_reducible refine r_nop ?_
  | with_reducible refine r_part ?_
  | with_reducible refine r_B ?_
  | with_reducible refine r_and ?_
  | with_reducible refine r_or ?_
  | with_reducible refine r_not ?_
  | with_reducible refine r_chain ?_
  | with_reducible refine r_bm0 ?_
  | with_reducible refine r_bm ?_
  | with_reducible refine r_m1 ?_
  | with_reducible refine r_gname ?_
  | with_reducible refine r_gnil ?_
  | with_reducible refine r_gcons ?_
  | with_reducible refine r_gsub ?_
  | with_reducible refine r_sfld ?_
  | with_reducible refine r_faug ?_
  | with_reducible refine r_rAdd ?_
  | with_reducible refine r_rSub ?_
  | with_reducible refine r_ilist ?_
  | with_reducible refine r_itup ?_
  | with_reducible refine r_irng1 ?_
  | with_reducible refine r_lc ?_
  | with_reducible refine r_for ?_
  | with_reducible refine r_istr ?_
  | with_reducible refine r_isN ?_
  | with_reducible refine r_isnN ?_
  | with_reducible refine r_abs ?_
  | with_reducible refine r_int1 ?_
  | with_reducible refine r_leS ?_
  | with_reducible refine r_brk ?_
  | with_reducible refine r_strV ?_
  | ((with_reducible show rLenS _ _ _); refine r_lenS (by omega) ?_)
  | ((with_reducible show rAddS _ _ _ _); refine r_addS (by first | omega | (simp only [List.length_append, List.length_cons, List.length_nil]; omega)) ?_)
  | with_reducible refine r_inSg ?_
  | with_reducible refine r_notInSg ?_
  | with_reducible refine r_strE ?_
  | with_reducible refine r_szle (by first | decide | (simp only [List.length_cons, List.length_nil]; omega)) ?_
  | with_reducible refine r_revS ?_
  | ((with_reducible show rIxL _ (.ref _) (.int _) _ _); apply r_ixL; (· walk_at "sq"); (· exact rfl))
  | ((with_reducible show rIxT _ (.ref _) (.int _) _ _); apply r_ixT; (· walk_at "sq"); (· exact rfl))
  | ((with_reducible show rLenSq _ [.ref _] _ _); first | (apply r_lenL; (· walk_at "sq")) | (apply r_lenT; (· walk_at "sq")))
  | ((with_reducible show rI _ _ (.int _) (.int _) _ _); refine r_I (by walk_at "ar") ?_)
  | with_reducible refine r_ct ?_)
local macro_rules | `(tactic| walk_at "sq") => `(tactic| first
  | assumption
  | exact SqL.of (by assumption)
  | exact SqT.of (by assumption)
  | exact SqL.of upd_same
  | exact SqT.of upd_same)
local macro_rules | `(tactic| walk_at "ar") => `(tactic| first
  | exact Or.inl ⟨by omega, by omega⟩
  | exact Or.inr ⟨by omega, by omega⟩
  | exact ⟨by omega, by omega⟩
  | exact ⟨by decide, by decide, by decide⟩
  | (show (0 : Int) < _; omega)
  | omega)
local macro_rules | `(tactic| walk_at "r") => `(tactic| repeat walk_at "s")

section
variable {P : Program} {w : World} {K : PySem.W.Frag} {mg : Str → Option Value} {base : Heap}
def spIsInt (K : PySem.W.Frag) : Sp := fun vs H Q _ => ∃ v k, vs = [v] ∧ IsK K H v k ∧ Q (.bl (decide (k = .int))) H
theorem c_is_integer (S : C54 K mg) : Cal P w K mg base 1 "is_integer" (spIsInt K) := by
  refine cal_of S (st := s_is_integer) (by simp [fn, d_is_integer]) (by decide +kernel) sc_is_integer bd_is_integer (fun vs H Q E ⟨v, k, h, _⟩ => by rw [h] <;> rfl) fun f cdv A outer s H vs Q E tk px hr h => ?_
  obtain ⟨v, k, rfl, hk, hQ⟩ := h
  refine ⟨_, (pss_one (ps_ret (pe_and (pe_callB call_isi (by rfl) (S.free "isinstance") (by decide +kernel) (pa_cons (pv 0) (pa_cons (pe_ty "int" rfl (S.free "int") (by decide +kernel)) pa_nil))) (pe_one (pe_not (pe_callB call_isi (by rfl) (S.free "isinstance") (by decide +kernel) (pa_cons (pv 0) (pa_cons (pe_ty "bool" rfl (S.free "bool") (by decide +kernel)) pa_nil)))))))), ?_⟩
  simp only [cxK]
  walk_at "r"
  refine isi .int hk ?_
  walk_at "r"
  refine ite2 (fun h => ?_) (fun h => ?_)
  · walk_at "r"
    refine isi .bl hk ?_
    walk_at "r"
    cases k <;> first | exact hQ | cases h
  · cases k <;> first | exact hQ | exact absurd rfl h
def spIsSign : Sp := fun vs H Q _ => ∃ c : Nat, vs = [.str (SX.S [c])] ∧ Q (.bl (Tx.isSg c)) H
theorem c_is_sign (S : C54 K mg) : Cal P w K mg base 1 "is_sign" spIsSign := by
  refine cal_of S (st := s_is_sign) (by simp [fn, d_is_sign]) (by decide +kernel) sc_is_sign bd_is_sign (fun vs H Q E ⟨c, h, _⟩ => by rw [h] <;> rfl) fun f cdv A outer s H vs Q E tk px hr h => ?_
  obtain ⟨c, rfl, hQ⟩ := h
  refine ⟨_, (pss_one (ps_ret (pe_chain op_leS op_leS (pe_sl [32]) (pv 0) (pe_sl [126])))), ?_⟩
  walk_at "r"
  have e1 := lex1
  refine ite2 (fun h => ?_) (fun h => ?_)
  · walk_at "r"
    have h' : ¬ c < 32 := by simpa [e1] using h
    have e : (!decide ([126] < [c])) = Tx.isSg c := by
      unfold Tx.isSg
      rw [show decide ([126] < [c]) = decide (126 < c) from decide_eq_decide.mpr (e1 _ _)]
      by_cases z : 126 < c
      · rw [decide_eq_true z, decide_eq_false (by omega)] <;> rfl
      · rw [decide_eq_false z, decide_eq_true (by omega)] <;> rfl
    rw [e]
    exact hQ
  · have h' : c < 32 := by simpa [e1] using h
    have e : Tx.isSg c = false := decide_eq_false (by omega)
    rw [e] at hQ
    exact hQ
def gStr : G → Bool
  | .str l => l.all Tx.isSg
  | _ => false
def spIsSigns : Sp := fun vs H Q _ => ∃ v g, vs = [v] ∧ GR H v g ∧ gSz g ≤ 100000 ∧ ∀ H', Ex H H' → Q (.bl (gStr g)) H'
theorem c_is_signs (S : C54 K mg) : Cal P w K mg base 2 "is_signs" spIsSigns := by
  have c_is_sign := c_is_sign (P := P) (w := w) (base := base) S
  refine cal_of S (st := s_is_signs) (by simp [fn, d_is_signs]) (by decide +kernel) sc_is_signs bd_is_signs (fun vs H Q E ⟨v, g, h, _⟩ => by rw [h] <;> rfl) fun f cdv A outer s H vs Q E tk px hr h => ?_
  obtain ⟨v, g, rfl, hg, hz, hQ⟩ := h
  refine ⟨_, (pss_one (ps_ret (pe_and (pe_callB call_isi (by rfl) (S.free "isinstance") (by decide +kernel) (pa_cons (pv 0) (pa_cons (pe_ty "str" rfl (S.free "str") (by decide +kernel)) pa_nil))) (pe_one (pe_callB (cr_all rfl) (by rfl) (S.free "all") (by decide +kernel) (pa_cons (pe_lc (own := [("sign", 1)]) (by rfl) sc_is_signs.nd (pi_str (pv 0)) (blkOk_by (own := [("sign", 1)]) (N := N_is_signs) (sc := defScope s_is_signs) (by decide +kernel)) (fun _ _ _ _ _ => (pg_name (i := 1) sc_is_signs.nd rfl (by first | exact Or.inl rfl | exact Or.inr rfl))) (fun _ _ _ _ _ => pts_nil) (fun _ _ _ _ _ => (pe_c c_is_sign hr (by first | decide | omega) (pa_cons (pv 1) pa_nil)))) pa_nil)))))), ?_⟩
  simp only [cxK]
  walk_at "r"
  refine isi .str (GR.isK hg) ?_
  walk_at "r"
  refine ite2 (fun h => ?_) (fun h => ?_)
  · cases g with
    | str l =>
      cases hg
      walk_at "r"
      intro D hD
      have hl : l.length ≤ 100000 := hz
      refine lc1 (P := fun i acc H1 => acc = (l.take i).map (fun c => V.bl (Tx.isSg c)) ∧ Ex H H1) walk_S (fun x => rfl) ⟨rfl, Evl.Ex.new hD⟩ (fun _ _ _ _ => trivial) ?_ ?_
      · rintro i x acc H1 H2 hi ha hD1 ⟨e1, x1⟩ ⟨rfl, c, hc, rfl⟩
        walk_at "r"
        refine ⟨c, rfl, lcn ha (by omega) hD1 ⟨?_, Evl.Ex.mut x1 hD⟩⟩
        rw [take_map _ hc, e1]
      · rintro acc H1 ha hD1 ⟨e1, x1⟩
        walk_at "r"
        refine ⟨D, (l.map Tx.isSg), rfl, SqL.of ?_, ?_⟩
        · rw [hD1, e1, List.take_length, List.map_map]
          rfl
        · have e : (l.map Tx.isSg).all id = l.all Tx.isSg := by simp [List.all_map]
          rw [e]
          exact hQ _ x1
    | _ => cases h
  · cases g with
    | str l => exact absurd rfl h
    | _ => exact hQ _ (fun _ _ h => h)
/-- a def is there, whatever it does -/
def spBot : Sp := fun _ _ _ _ => False
theorem bot_is_thing (S : C54 K mg) : Cal P w K mg base 1 "is_thing" spBot :=
  cal_of S (st := s_is_thing) (by simp [fn, d_is_thing]) (by decide +kernel) sc_is_thing bd_is_thing (fun _ _ _ _ h => h.elim) fun f cdv A outer s H vs Q E tk px hr h => h.elim
def spIsThing (n : Nat) : Sp := fun vs H Q _ => ∃ v g k, vs = [v, .int (k : Nat)] ∧ k < n ∧ GR H v g ∧ gSz g ≤ 100000 ∧ ∀ H', Ex H H' → Q (.bl (gTh g k)) H'
theorem c_is_thing (S : C54 K mg) : ∀ n : Nat, Cal P w K mg base (n + 3) "is_thing" (spIsThing n)
  | 0 => ((bot_is_thing S).mono (by omega)).imp fun vs H Q E ⟨_, _, k, _, h, _⟩ => absurd h (Nat.not_lt_zero k)
  | n + 1 => by
    have c_is_integer := c_is_integer (P := P) (w := w) (base := base) S
    have c_is_signs := c_is_signs (P := P) (w := w) (base := base) S
    have c_is_thing := c_is_thing S n
    refine cal_of S (st := s_is_thing) (by simp [fn, d_is_thing]) (by decide +kernel) sc_is_thing bd_is_thing (fun vs H Q E ⟨v, g, k, h, _⟩ => by rw [h] <;> rfl) fun f cdv A outer s H vs Q E tk px hr h => ?_
    obtain ⟨v, g, k, rfl, hk, hg, hz, hQ⟩ := h
    refine ⟨_, (pss_cons (ps_if (pt_val (pe_callB call_isi (by rfl) (S.free "isinstance") (by decide +kernel) (pa_cons (pv 0) (pa_cons (pe_ty "tuple" rfl (S.free "tuple") (by decide +kernel)) pa_nil)))) (pss_one (ps_ret (pe_and (pe_cmpR op_gt (pv 1) pe_int (nomark _)) (pe_one (pe_callB (cr_all rfl) (by rfl) (S.free "all") (by decide +kernel) (pa_cons (pe_lc (own := [("item", 2)]) (by rfl) sc_is_thing.nd (pi_tup (pv 0)) (blkOk_by (own := [("item", 2)]) (N := N_is_thing) (sc := defScope s_is_thing) (by decide +kernel)) (fun _ _ _ _ _ => (pg_name (i := 2) sc_is_thing.nd rfl (by first | exact Or.inl rfl | exact Or.inr rfl))) (fun _ _ _ _ _ => pts_nil) (fun _ _ _ _ _ => (pe_c c_is_thing hr (by first | decide | omega) (pa_cons (pv 2) (pa_cons (pe_op op_sub (pv 1) pe_int) pa_nil))))) pa_nil)))))) pss_nil)
      (pss_cons (ps_if (pt_val (pe_cS c_is_integer hr (by first | decide | omega) tk (pa_cons (pv 0) pa_nil))) (pss_one (ps_ret (pe_chain op_le op_le (pe_un un_neg (pe_k rfl (S.int "GREATEST" 999999999999999999999999999999))) (pv 0) (pe_k rfl (S.int "GREATEST" 999999999999999999999999999999))))) pss_nil)
      (pss_one (ps_ret (pe_or (pe_cmpR op_isNn (pv 0) pe_non (nomark _)) (pe_one (pe_cS c_is_signs hr (by first | decide | omega) tk (pa_cons (pv 0) pa_nil)))))))), ?_⟩
    simp only [cxK]
    walk_at "r"
    refine isi .tup (GR.isK hg) ?_
    walk_at "r"
    refine ite2 (fun h => ?_) (fun h => ?_)
    · cases g with
      | tup gs =>
        cases hg with
        | @tup a xs _ ha hgs =>
        walk_at "r"
        refine ite2 (fun h1 => ?_) (fun h1 => ?_)
        · have h1 : (0 : Int) < k := of_decide_eq_true h1
          obtain ⟨m, rfl⟩ : ∃ m, k = m + 1 := ⟨k - 1, by omega⟩
          have hz' : gs.length + gSzs gs ≤ 100000 := hz
          have hlen := hgs.len
          walk_at "r"
          refine ⟨_, rfl, ⟨xs, SqT.of ha⟩, ?_⟩
          intro D hD
          refine lc1 (P := fun i acc H1 => acc = (gs.take i).map (fun g => V.bl (gTh g m)) ∧ Ex H H1) walk_tup (fun x => rfl) ⟨rfl, Evl.Ex.new hD⟩ (fun i acc H1 ⟨_, e⟩ => SqT.of (e _ _ ha)) ?_ ?_
          · rintro i x acc H1 H2 hi hac hD1 ⟨e1, x1⟩ ⟨rfl, hx⟩
            obtain ⟨g, hg, hgr⟩ := hgs.get hx
            walk_at "r"
            have hgz := gSz_mem hg
            refine ⟨x, g, m, by simp, by omega, hgr.kg (Ex.kg x1), by omega, fun H3 x3 => ?_⟩
            refine lcn hac (by omega) (x3 _ _ hD1) ⟨?_, Evl.Ex.mut (Evl.Ex.trans x1 x3) hD⟩
            rw [take_map _ hg, e1]
          · rintro acc H1 hac hD1 ⟨e1, x1⟩
            walk_at "r"
            refine ⟨D, (gs.map fun g => gTh g m), rfl, SqL.of ?_, ?_⟩
            · rw [hD1, e1, hlen, List.take_length, List.map_map]
              rfl
            · have e : (gs.map fun g => gTh g m).all id = gTh (.tup gs) (m + 1) := by simp [List.all_map, gTh, gThs_all, Function.comp_def]
              rw [e]
              exact hQ _ x1
        · have h1 : ¬ (0 : Int) < k := fun z => h1 (decide_eq_true z)
          have e : k = 0 := by omega
          subst e
          have := hQ H (fun _ _ h => h)
          simpa [gTh] using this
      | _ => cases h
    · walk_at "r"
      refine ⟨v, g.kd, rfl, GR.isK hg, ?_⟩
      walk_at "r"
      refine ite2 (fun h2 => ?_) (fun h2 => ?_)
      · cases g with
        | int i =>
          cases hg
          walk_at "r"
          refine ite2 (fun h3 => ?_) (fun h3 => ?_)
          · walk_at "r"
            have h3 := of_decide_eq_true h3
            have := hQ H (fun _ _ h => h)
            have e : gTh (.int i) k = decide (i ≤ 999999999999999999999999999999) := by
              simp only [gTh]
              exact decide_eq_decide.mpr ⟨fun z => z.2, fun z => ⟨h3, z⟩⟩
            rw [e] at this
            exact this
          · have h3 : ¬ (-999999999999999999999999999999 : Int) ≤ i := fun z => h3 (decide_eq_true z)
            have := hQ H (fun _ _ h => h)
            have e : gTh (.int i) k = false := by
              simp only [gTh]
              exact decide_eq_false fun z => h3 z.1
            rw [e] at this
            exact this
        | _ => cases h2
      · walk_at "r"
        refine ite2 (fun h3 => ?_) (fun h3 => ?_)
        · have h3 : v = .non := of_decide_eq_true h3
          cases hg with
          | non => exact hQ H (fun _ _ h => h)
          | _ => cases h3
        · have h3 : v ≠ .non := fun z => h3 (decide_eq_true z)
          walk_at "r"
          refine ⟨v, g, rfl, hg, hz, fun H1 x1 => ?_⟩
          have := hQ H1 x1
          have e : gTh g k = gStr g := by
            cases hg with
            | non => exact absurd rfl h3
            | bl b => rfl
            | int i => exact absurd rfl h2
            | str l => simp [gTh, gStr]
            | tup _ _ => exact absurd rfl h
            | lst _ => rfl
            | dic _ => rfl
          rw [e] at this
          exact this
end
end K54
--@law law_k54_whole_things_as_texts h54.json
set_option Elab.async false
set_option linter.all false
set_option maxRecDepth 100000
set_option maxHeartbeats 4000000
namespace K54
open PySem PySem.Spec PyProof.Rows L2 KB
open SX (S)
local macro_rules | `(tactic| walk_at "s") => `(tactic| first
  | with_reducible refine r_seq ?_
  | with_reducible refine r_set ?_
  | ((with_reducible show tVar _ _ _ _); refine r_var rfl ?_)
  | with_reducible refine r_c ?_
  | with_reducible refine r_op ?_
  | with_reducible refine r_cb ?_
  | with_reducible refine r_cons ?_
  | with_reducible refine r_nil ?_
  | with_reducible refine r_test ?_
  | with_reducible refine r_if ?_
  | with_reducible refine r_I0 ?_
  | with_reducible refine r_eqS1 ?_
  | with_reducible refine r_neS1 ?_
  | with_reducible refine r_eqSL ?_
  | with_reducible refine r_neSL ?_
  | with_reducible refine r_eqI ?_
  | ((with_reducible show rEq _ _ _ _); refine r_eq ?_)
  | ((with_reducible show rNe _ _ _ _); refine r_ne ?_)
  | with_reducible refine r_bl ?_
  | with_reducible refine r_blV ?_
  | with_reducible refine r_intV ?_
  | with_reducible refine r_ret ?_
  | with_reducible refine r_next ?_
  | with_reducible refine r_callS ?_
  | with_reducible refine r_call ?_
  | with_reducible refine r_asg ?_
  | with_reducible refine r_drop ?_
  | with_reducible refine r_retN ?_
  | with_reducible refine r_un ?_
  | with_reducible refine r_U ?_
  | with_reducible refine r_tup ?_
  | with_reducible refine r_lst ?_
  | with_reducible refine r_andV ?_
  | with_reducible refine r_orV ?_
  | with_reducible refine r_notV ?_
  | with_reducible refine r_ifE ?_
  | with_reducible refine r_meth ?_
  | with_reducible refine r_make ?_
  | with_reducible refine r_fld ?_
  | with_reducible refine r_sl ?_
  | with_reducible refine r_nop ?_
  | with_reducible refine r_part ?_
  | with_reducible refine r_B ?_
  | with_reducible refine r_and ?_
  | with_reducible refine r_or ?_
  | with_reducible refine r_not ?_
  | with_reducible refine r_chain ?_
  | with_reducible refine r_bm0 ?_
  | with_reducible refine r_bm ?_
  | with_reducible refine r_m1 ?_
  | with_reducible refine r_gname ?_
  | with_reducible refine r_gnil ?_
  | with_reducible refine r_gcons ?_
  | with_reducible refine r_gsub ?_
  | with_reducible refine r_sfld ?_
  | with_reducible refine r_faug ?_
  | with_reducible refine r_rAdd ?_
  | with_reducible refine r_rSub ?_
  | with_reducible refine r_ilist ?_
  | with_reducible refine r_itup ?_
  | with_reducible refine r_irng1 ?_
  | with_reducible refine r_lc ?_
  | with_reducible refine r_for ?_
  | with_reducible refine r_istr ?_
  | with_reducible refine r_isN ?_
  | with_reducible refine r_isnN ?_
  | with_reducible refine r_abs ?_
  | with_reducible refine r_int1 ?_
  | with_reducible refine r_leS ?_
  | with_reducible refine r_brk ?_
  | with_reducible refine r_strV ?_
  | ((with_reducible show rLenS _ _ _); refine r_lenS (by omega) ?_)
  | ((with_reducible show rAddS _ _ _ _); refine r_addS (by first | omega | (simp only [List.length_append, List.length_cons, List.length_nil]; omega)) ?_)
  | with_reducible refine r_inSg ?_
  | with_reducible refine r_notInSg ?_
  | with_reducible refine r_strE ?_
  | with_reducible refine r_szle (by first | decide | (simp only [List.length_cons, List.length_nil]; omega)) ?_
  | with_reducible refine r_revS ?_
  | ((with_reducible show rIxL _ (.ref _) (.int _) _ _); apply r_ixL; (· walk_at "sq"); (· exact rfl))
  | ((with_reducible show rIxT _ (.ref _) (.int _) _ _); apply r_ixT; (· walk_at "sq"); (· exact rfl))
  | ((with_reducible show rLenSq _ [.ref _] _ _); first | (apply r_lenL; (· walk_at "sq")) | (apply r_lenT; (· walk_at "sq")))
  | ((with_reducible show rI _ _ (.int _) (.int _) _ _); refine r_I (by walk_at "ar") ?_)
  | with_reducible refine r_ct ?_)
local macro_rules | `(tactic| walk_at "sq") => `(tactic| first
  | assumption
  | exact SqL.of (by assumption)
  | exact SqT.of (by assumption)
  | exact SqL.of upd_same
  | exact SqT.of upd_same)
local macro_rules | `(tactic| walk_at "ar") => `(tactic| first
  | exact Or.inl ⟨by omega, by omega⟩
  | exact Or.inr ⟨by omega, by omega⟩
  | exact ⟨by omega, by omega⟩
  | exact ⟨by decide, by decide, by decide⟩
  | (show (0 : Int) < _; omega)
  | omega)
local macro_rules | `(tactic| walk_at "r") => `(tactic| repeat walk_at "s")

section
variable {P : Program} {w : World} {K : PySem.W.Frag} {mg : Str → Option Value} {base : Heap}
theorem inV2 (c : Nat) : inV (.str (SX.S [c])) [.str (SX.S [39]), .str (SX.S [126])] = decide (c = 39 ∨ c = 126) := by
  have e : ∀ x y : Nat, eqV (.str (SX.S [x])) (.str (SX.S [y])) = decide (x = y) := fun x y => by
    show decide (SX.S [x] = SX.S [y]) = _
    refine decide_eq_decide.mpr ⟨fun h => ?_, fun h => by rw [h]⟩
    have z := congrArg (fun s : Str => s.cps.toList) h
    exact (List.cons.inj z).1
  show (eqV (.str (SX.S [39])) (.str (SX.S [c])) || (eqV (.str (SX.S [126])) (.str (SX.S [c])) || false)) = _
  rw [e, e]
  simp [eq_comm]
def spPacked (n : Nat) : Sp := fun vs H Q _ => ∃ v d k, vs = [v] ∧ TD H v d ∧ Tx.isTh d k = true ∧ k < n ∧ (Tx.pk d).length ≤ 100000 ∧ ∀ H', Ex H H' → Q (.str (SX.S (Tx.pk d))) H'
theorem bot_raw_packed (S : C54 K mg) : Cal P w K mg base 1 "raw_packed" spBot :=
  cal_of S (st := s_raw_packed) (by simp [fn, d_raw_packed]) (by decide +kernel) sc_raw_packed bd_raw_packed (fun _ _ _ _ h => h.elim) fun f cdv A outer s H vs Q E tk px hr h => h.elim
theorem c_raw_packed (S : C54 K mg) : ∀ n : Nat, Cal P w K mg base (n + 1) "raw_packed" (spPacked n)
  | 0 => ((bot_raw_packed S).mono (by omega)).imp fun vs H Q E ⟨_, _, k, _, _, _, h, _⟩ => absurd h (Nat.not_lt_zero k)
  | n + 1 => by
    have c_raw_packed := c_raw_packed S n
    refine cal_of S (st := s_raw_packed) (by simp [fn, d_raw_packed]) (by decide +kernel) sc_raw_packed bd_raw_packed (fun vs H Q E ⟨v, g, k, h, _⟩ => by rw [h] <;> rfl) fun f cdv A outer s H vs Q E tk px hr h => ?_
    obtain ⟨v, d, k, rfl, hd, hth, hk, hz, hQ⟩ := h
    have hg := hd.gr
    refine ⟨_, (pss_cons (ps_if (pt_cmpR op_isNn (pv 0) pe_non (nomark _)) (pss_one (ps_ret (pe_sl [46]))) pss_nil)
      (pss_cons (ps_if (pt_val (pe_callB call_isi (by rfl) (S.free "isinstance") (by decide +kernel) (pa_cons (pv 0) (pa_cons (pe_ty "str" rfl (S.free "str") (by decide +kernel)) pa_nil)))) (pss_one (ps_ret (pe_op op_addS (pe_op op_addS (pe_ks (by rfl) (S.str "QUOTE" "'") [39]) (pe_joinS (pe_sl []) (pe_lc (own := [("sign", 1)]) (by rfl) sc_raw_packed.nd (pi_str (pv 0)) (blkOk_by (own := [("sign", 1)]) (N := N_raw_packed) (sc := defScope s_raw_packed) (by decide +kernel)) (fun _ _ _ _ _ => (pg_name (i := 1) sc_raw_packed.nd rfl (by first | exact Or.inl rfl | exact Or.inr rfl))) (fun _ _ _ _ _ => pts_nil) (fun _ _ _ _ _ => (pe_ifExp (pt_cmpR (op_in_seqK (K := K) rfl) (pv 1) (pe_tup (pa_cons (pe_ks (by rfl) (S.str "QUOTE" "'") [39]) (pa_cons (pe_ks (by rfl) (S.str "ESCAPE" "~") [126]) pa_nil))) rfl) (pe_op op_addS (pe_ks (by rfl) (S.str "ESCAPE" "~") [126]) (pv 1)) (pv 1)))))) (pe_ks (by rfl) (S.str "QUOTE" "'") [39])))) pss_nil)
      (pss_cons (ps_if (pt_val (pe_callB call_isi (by rfl) (S.free "isinstance") (by decide +kernel) (pa_cons (pv 0) (pa_cons (pe_ty "tuple" rfl (S.free "tuple") (by decide +kernel)) pa_nil)))) (pss_one (ps_ret (pe_op op_addS (pe_op op_addS (pe_sl [40]) (pe_joinS (pe_sl [44]) (pe_lc (own := [("item", 2)]) (by rfl) sc_raw_packed.nd (pi_tup (pv 0)) (blkOk_by (own := [("item", 2)]) (N := N_raw_packed) (sc := defScope s_raw_packed) (by decide +kernel)) (fun _ _ _ _ _ => (pg_name (i := 2) sc_raw_packed.nd rfl (by first | exact Or.inl rfl | exact Or.inr rfl))) (fun _ _ _ _ _ => pts_nil) (fun _ _ _ _ _ => (pe_c c_raw_packed hr (by first | decide | omega) (pa_cons (pv 2) pa_nil)))))) (pe_sl [41])))) pss_nil)
      (pss_one (ps_ret (pe_callTy call_strI (by rfl) (S.free "str") (by decide +kernel) (pa_cons (pv 0) pa_nil))))))), ?_⟩
    simp only [cxK]
    walk_at "r"
    refine ite2 (fun h => ?_) (fun h => ?_)
    · have h : v = .non := of_decide_eq_true h
      subst h
      cases hd
      walk_at "r"
      exact hQ H fun _ _ h => h
    · have hnn : v ≠ .non := fun z => h (decide_eq_true z)
      walk_at "r"
      refine isi .str (GR.isK hg) ?_
      walk_at "r"
      refine ite2 (fun h1 => ?_) (fun h1 => ?_)
      · cases hd with
        | str l =>
          walk_at "r"
          intro D hD
          have hz2 : (39 :: (Tx.escC l ++ [39])).length ≤ 100000 := hz
          simp only [List.length_cons, List.length_append, List.length_nil] at hz2
          have hll : l.length ≤ 100000 := by
            have := gSz_pk (TD.str (H := H) l)
            have e : gSz (d2g (.str (SX.S l))) = l.length := rfl
            omega
          refine lc1 (P := fun i acc H1 => acc = (l.take i).map (fun c => V.str (SX.S (Tx.esc1 c))) ∧ Ex H H1) walk_S (fun x => rfl) ⟨rfl, Evl.Ex.new hD⟩ (fun _ _ _ _ => trivial) ?_ ?_
          · rintro i x acc H1 H2 hi ha hD1 ⟨e1, x1⟩ ⟨rfl, c, hc, rfl⟩
            walk_at "r"
            intro p hp
            generalize hU : upd H2 p _ = H3
            have x3 : Ex H2 H3 := hU ▸ Evl.Ex.new hp
            have e3 : H3 p = some (.tup [V.str (SX.S [39]), V.str (SX.S [126])]) := hU ▸ upd_same
            refine ⟨p, _, rfl, .inr (SqT.of e3), rfl, rfl, ?_⟩
            rw [if_neg Bool.false_ne_true, inV2]
            walk_at "r"
            have fin : ∀ y, y = V.str (SX.S (Tx.esc1 c)) → LcN D (fun i acc H1 => acc = (l.take i).map (fun c => V.str (SX.S (Tx.esc1 c))) ∧ Ex H H1) i y H3 := fun y e => by
              refine lcn ha (by omega) (x3 _ _ hD1) ⟨?_, Evl.Ex.mut (Evl.Ex.trans x1 x3) hD⟩
              rw [take_map _ hc, e1, e]
            refine ite2 (fun h3 => ?_) (fun h3 => ?_)
            · walk_at "r"
              refine fin _ ?_
              unfold Tx.esc1
              rw [if_pos (of_decide_eq_true h3)]
              rfl
            · walk_at "r"
              refine fin _ ?_
              unfold Tx.esc1
              rw [if_neg (fun z => h3 (decide_eq_true z))]
          · rintro acc H1 ha hD1 ⟨e1, x1⟩
            have e2 : SqL K H1 D ((l.map Tx.esc1).map fun l => V.str (SX.S l)) := SqL.of (by rw [hD1, e1, List.take_length, List.map_map]; rfl)
            refine r_join e2 (by rw [esc_sum, List.length_map]; simp only [List.length_nil]; omega) ?_
            rw [escC_eq]
            refine r_addS (by simp only [List.length_cons, List.length_nil]; omega) ?_
            walk_at "r"
            have e3 : ([39] ++ Tx.escC l) ++ [39] = Tx.pk (.str (SX.S l)) := by simp [Tx.pk]
            rw [e3]
            exact hQ _ x1
        | _ => cases h1
      · walk_at "r"
        refine isi .tup (GR.isK hg) ?_
        walk_at "r"
        refine ite2 (fun h2 => ?_) (fun h2 => ?_)
        · cases hd with
          | @tup a xs ds ha hds =>
            obtain ⟨m, rfl⟩ : ∃ m, k = m + 1 := by
              cases k with
              | zero => simp [Tx.isTh] at hth
              | succ m => exact ⟨m, rfl⟩
            have hth : Tx.isThs ds m = true := hth
            have hlen := hds.len
            have hz2 := hz
            simp only [Tx.pk, List.length_cons, List.length_append, List.length_nil] at hz2
            have hsum := joinL_len (Tx.pks ds)
            have hpl : (Tx.pks ds).length = ds.length := by rw [pks_eq, List.length_map]
            have hlenb : ds.length ≤ 100000 := by split at hsum <;> omega
            walk_at "r"
            refine ⟨_, rfl, ⟨xs, SqT.of ha⟩, ?_⟩
            intro D hD
            refine lc1 (P := fun i acc H1 => acc = (ds.take i).map (fun d => V.str (SX.S (Tx.pk d))) ∧ Ex H H1) walk_tup (fun x => rfl) ⟨rfl, Evl.Ex.new hD⟩ (fun i acc H1 ⟨_, e⟩ => SqT.of (e _ _ ha)) ?_ ?_
            · rintro i x acc H1 H2 hi hac hD1 ⟨e1, x1⟩ ⟨rfl, hx⟩
              obtain ⟨d, hdi, hdr⟩ := hds.get hx
              have hdm := List.mem_of_getElem? hdi
              walk_at "r"
              have hpz := pk_mem hdm
              refine ⟨x, d, m, by simp, hdr.kt (Ex.kt x1), ?_, by omega, by omega, fun H3 x3 => ?_⟩
              · rw [isThs_all] at hth
                exact List.all_eq_true.mp hth d hdm
              · refine lcn hac (by omega) (x3 _ _ hD1) ⟨?_, Evl.Ex.mut (Evl.Ex.trans x1 x3) hD⟩
                rw [take_map _ hdi, e1]
            · rintro acc H1 hac hD1 ⟨e1, x1⟩
              have e2 : SqL K H1 D ((Tx.pks ds).map fun l => V.str (SX.S l)) := SqL.of (by rw [hD1, e1, hlen, List.take_length, pks_eq, List.map_map]; rfl)
              have hj := joinL_sum (Tx.pks ds)
              refine r_join e2 (by simp only [List.length_cons, List.length_nil]; omega) ?_
              refine r_addS (by simp only [List.length_cons, List.length_nil]; omega) ?_
              walk_at "r"
              have e3 : ([40] ++ TL.joinL [44] (Tx.pks ds)) ++ [41] = Tx.pk (.tuple ds) := by simp [Tx.pk]
              rw [e3]
              exact hQ _ x1
          | _ => cases h2
        · walk_at "r"
          cases hd with
          | int i =>
            have hth : decide (-999999999999999999999999999999 ≤ i ∧ i ≤ 999999999999999999999999999999) = true := by
              have := hth
              unfold Tx.isTh at this
              exact this
            have hth := of_decide_eq_true hth
            exact ⟨i, rfl, by omega, by have := hQ H (fun _ _ h => h); unfold Tx.pk at this; exact this⟩
          | non => exact absurd rfl hnn
          | str _ => exact absurd rfl h1
          | tup _ _ => exact absurd rfl h2
def spThingText (K : PySem.W.Frag) : Sp := fun vs H Q E => ∃ v g, vs = [v] ∧ GR H v g ∧ gSz g ≤ 100000 ∧ ((∃ d, TD H v d ∧ g = d2g d ∧ Tx.isTh d 30 = true ∧ (Tx.pk d).length ≤ 100000 ∧ ∀ H', Ex H H' → Q (.str (SX.S (Tx.pk d))) H') ∨
  (gTh g 30 = false ∧ ∀ H', Ex H H' → E (.ref (He.ga K "NoThing")) none H'))
theorem c_thing_text (S : C54 K mg) : Cal P w K mg base 36 "thing_text" (spThingText K) := by
  have c_is_thing := c_is_thing (P := P) (w := w) (base := base) S 31
  have c_raw_packed := c_raw_packed (P := P) (w := w) (base := base) S 31
  refine cal_of S (st := s_thing_text) (by simp [fn, d_thing_text]) (by decide +kernel) sc_thing_text bd_thing_text (fun vs H Q E ⟨v, g, h, _⟩ => by rw [h] <;> rfl) fun f cdv A outer s H vs Q E tk px hr h => ?_
  obtain ⟨v, g, rfl, hg, hz, hQ⟩ := h
  refine ⟨_, (pss_cons (ps_if (pt_not (pt_val (pe_cS c_is_thing hr (by first | decide | omega) tk (pa_cons (pv 0) (pa_cons (pe_k rfl (S.int "MOST_DEEP" 30)) pa_nil))))) (pss_one (ps_raise rfl tk (HB.pmk_x (S.exc "NoThing") (S.glo "NoThing")))) pss_nil)
      (pss_one (ps_ret (pe_cS c_raw_packed hr (by first | decide | omega) tk (pa_cons (pv 0) pa_nil))))), ?_⟩
  simp only [cxK]
  walk_at "r"
  refine ⟨v, g, 30, rfl, by omega, hg, hz, fun H1 x1 => ?_⟩
  walk_at "r"
  rcases hQ with ⟨d, hd, rfl, hth, hpl, hQ⟩ | ⟨hth, hE⟩
  · have e : gTh (d2g d) 30 = true := (gTh_d 30 hd).trans hth
    rw [e]
    refine ite2 (fun z => nomatch z) (fun _ => ?_)
    walk_at "r"
    exact ⟨v, d, 30, rfl, hd.kt (Ex.kt x1), hth, by omega, hpl, fun H2 x2 => hQ H2 (Evl.Ex.trans x1 x2)⟩
  · rw [hth]
    refine ite2 (fun _ => ?_) (fun z => absurd rfl z)
    exact hE H1 x1
end
end K54
--@law law_k54_whole_things_as_texts h54.json
set_option Elab.async false
set_option linter.all false
set_option maxRecDepth 100000
set_option maxHeartbeats 4000000
namespace K54
open PySem PySem.Spec PyProof.Rows L2 KB
open SX (S)
local macro_rules | `(tactic| walk_at "s") => `(tactic| first
  | with_reducible refine r_seq ?_
  | with_reducible refine r_set ?_
  | ((with_reducible show tVar _ _ _ _); refine r_var rfl ?_)
  | with_reducible refine r_c ?_
  | with_reducible refine r_op ?_
  | with_reducible refine r_cb ?_
  | with_reducible refine r_cons ?_
  | with_reducible refine r_nil ?_
  | with_reducible refine r_test ?_
  | with_reducible refine r_if ?_
  | with_reducible refine r_I0 ?_
  | with_reducible refine r_eqS1 ?_
  | with_reducible refine r_neS1 ?_
  | with_reducible refine r_eqSL ?_
  | with_reducible refine r_neSL ?_
  | with_reducible refine r_eqI ?_
  | ((with_reducible show rEq _ _ _ _); refine r_eq ?_)
  | ((with_reducible show rNe _ _ _ _); refine r_ne ?_)
  | with_reducible refine r_bl ?_
  | with_reducible refine r_blV ?_
  | with_reducible refine r_intV ?_
  | with_reducible refine r_ret ?_
  | with_reducible refine r_next ?_
  | with_reducible refine r_callS ?_
  | with_reducible refine r_call ?_
  | with_reducible refine r_asg ?_
  | with_reducible refine r_drop ?_
  | with_reducible refine r_retN ?_
  | with_reducible refine r_un ?_
  | with_reducible refine r_U ?_
  | with_reducible refine r_tup ?_
  | with_reducible refine r_lst ?_
  | with_reducible refine r_andV ?_
  | with_reducible refine r_orV ?_
  | with_reducible refine r_notV ?_
  | with_reducible refine r_ifE ?_
  | with_reducible refine r_meth ?_
  | with_reducible refine r_make ?_
  | with_reducible refine r_fld ?_
  | with_reducible refine r_sl ?_
  | with_reducible refine r_nop ?_
  | with_reducible refine r_part ?_
  | with_reducible refine r_B ?_
  | with_reducible refine r_and ?_
  | with_reducible refine r_or ?_
  | with_reducible refine r_not ?_
  | with_reducible refine r_chain ?_
  | with_reducible refine r_bm0 ?_
  | with_reducible refine r_bm ?_
  | with_reducible refine r_m1 ?_
  | with_reducible refine r_gname ?_
  | with_reducible refine r_gnil ?_
  | with_reducible refine r_gcons ?_
  | with_reducible refine r_gsub ?_
  | with_reducible refine r_sfld ?_
  | with_reducible refine r_faug ?_
  | with_reducible refine r_rAdd ?_
  | with_reducible refine r_rSub ?_
  | with_reducible refine r_ilist ?_
  | with_reducible refine r_itup ?_
  | with_reducible refine r_irng1 ?_
  | with_reducible refine r_lc ?_
  | with_reducible refine r_for ?_
  | with_reducible refine r_istr ?_
  | with_reducible refine r_isN ?_
  | with_reducible refine r_isnN ?_
  | with_reducible refine r_abs ?_
  | with_reducible refine r_int1 ?_
  | with_reducible refine r_leS ?_
  | with_reducible refine r_brk ?_
  | with_reducible refine r_strV ?_
  | ((with_reducible show rLenS _ _ _); refine r_lenS (by omega) ?_)
  | ((with_reducible show rAddS _ _ _ _); refine r_addS (by first | omega | (simp only [List.length_append, List.length_cons, List.length_nil]; omega)) ?_)
  | with_reducible refine r_inSg ?_
  | with_reducible refine r_notInSg ?_
  | with_reducible refine r_strE ?_
  | with_reducible refine r_szle (by first | decide | (simp only [List.length_cons, List.length_nil]; omega)) ?_
  | with_reducible refine r_revS ?_
  | ((with_reducible show rIxL _ (.ref _) (.int _) _ _); apply r_ixL; (· walk_at "sq"); (· exact rfl))
  | ((with_reducible show rIxT _ (.ref _) (.int _) _ _); apply r_ixT; (· walk_at "sq"); (· exact rfl))
  | ((with_reducible show rLenSq _ [.ref _] _ _); first | (apply r_lenL; (· walk_at "sq")) | (apply r_lenT; (· walk_at "sq")))
  | ((with_reducible show rI _ _ (.int _) (.int _) _ _); refine r_I (by walk_at "ar") ?_)
  | with_reducible refine r_ct ?_)
local macro_rules | `(tactic| walk_at "sq") => `(tactic| first
  | assumption
  | exact SqL.of (by assumption)
  | exact SqT.of (by assumption)
  | exact SqL.of upd_same
  | exact SqT.of upd_same)
local macro_rules | `(tactic| walk_at "ar") => `(tactic| first
  | exact Or.inl ⟨by omega, by omega⟩
  | exact Or.inr ⟨by omega, by omega⟩
  | exact ⟨by omega, by omega⟩
  | exact ⟨by decide, by decide, by decide⟩
  | (show (0 : Int) < _; omega)
  | omega)
local macro_rules | `(tactic| walk_at "r") => `(tactic| repeat walk_at "s")

section
variable {P : Program} {w : World} {K : PySem.W.Frag} {mg : Str → Option Value} {base : Heap}
def spDraw : Sp := fun vs H Q _ => ∃ (a c : Addr) (ns : List Int) (many : Int), vs = [.ref a, .int many] ∧ Hand H a c ns ∧ (0 < many ∧ many < 1073741824) ∧ ∀ (r : Int) (H' : Hp), 0 ≤ r → r < many → Dr H a c ns H' → Q (.int r) H'
theorem c_law_draw (S : C54 K mg) : Cal P w K mg base 1 "_law_draw" spDraw := by
  refine cal_of S (st := s_law_draw) (by simp [fn, d_law_draw]) (by decide +kernel) sc_law_draw bd_law_draw (fun vs H Q E ⟨a, c, ns, m, h, _⟩ => by rw [h] <;> rfl) fun f cdv A outer s H vs Q E tk px hr h => ?_
  obtain ⟨a, c, ns, many, rfl, ⟨x1, x2, x3, x4, hc, h1⟩, hm, hQ⟩ := h
  refine ⟨_, (Evl.pss_cut (ps_if ((pw_and (pt_cmpR op_eq (pe_ix ix_list (pv 0) pe_int (fun _ _ => rfl)) pe_int (nomark _)) (pw_and1 (pt_cmpR op_lt (pe_ix ix_list (pv 0) pe_int (fun _ _ => rfl)) (pe_callB call_lenSq (by rfl) (S.free "len") PySem.boot_len (pa_cons (pe_ix ix_list (pv 0) pe_int (fun _ _ => rfl)) pa_nil)) (nomark _))))).pt (pss_cons (ps_set (i := 3) sc_law_draw.nd rfl (by first | exact Or.inl rfl | exact Or.inr rfl) (pe_ix ix_list (pe_ix ix_list (pv 0) pe_int (fun _ _ => rfl)) (pe_ix ix_list (pv 0) pe_int (fun _ _ => rfl)) (fun _ _ => rfl)))
        (pss_cons (ps_asg (pe_op op_add (pe_ix ix_list (pv 0) pe_int (fun _ _ => rfl)) pe_int) (pg_sub (pv 0) pe_int set_list))
        (pss_cons (ps_asg (pe_op op_mod (pe_callTy call_intI (by rfl) (S.free "int") (by decide +kernel) (pa_cons (pe_op op_add (pe_op op_add (pe_op op_mul (pe_ix ix_list (pv 0) pe_int (fun _ _ => rfl)) pe_int) (pv 3)) pe_int) pa_nil)) pe_int) (pg_sub (pv 0) pe_int set_list))
        (pss_one (ps_if (pt_cmpR op_ge (pv 3) (pe_op op_pow pe_int pe_int) (nomark _)) (pss_one (ps_asg (pv 3) (pg_sub (pv 0) pe_int set_list))) pss_nil))))) pss_nil)
      (pss_cons (ps_if (pt_cmpR op_gt (pe_ix ix_list (pv 0) pe_int (fun _ _ => rfl)) pe_int (nomark _)) (pss_cons (ps_set (i := 4) sc_law_draw.nd rfl (by first | exact Or.inl rfl | exact Or.inr rfl) (pe_op op_mod (pe_callTy call_intI (by rfl) (S.free "int") (by decide +kernel) (pa_cons (pe_ix ix_list (pv 0) pe_int (fun _ _ => rfl)) pa_nil)) (pv 1)))
        (pss_cons (ps_asg (pe_op op_fdiv (pe_ix ix_list (pv 0) pe_int (fun _ _ => rfl)) (pv 1)) (pg_sub (pv 0) pe_int set_list))
        (pss_one (ps_ret (pv 4))))) pss_nil)
      (pss_cons (ps_asg (pe_op op_add (pe_ix ix_list (pv 0) pe_int (fun _ _ => rfl)) pe_int) (pg_sub (pv 0) pe_int set_list))
      (pss_cons (ps_set (i := 2) sc_law_draw.nd rfl (by first | exact Or.inl rfl | exact Or.inr rfl) (pe_op op_mod (pe_callTy call_intI (by rfl) (S.free "int") (by decide +kernel) (pa_cons (pe_op op_mul (pe_callTy call_intI (by rfl) (S.free "int") (by decide +kernel) (pa_cons (pe_op op_add (pe_ix ix_list (pv 0) pe_int (fun _ _ => rfl)) (pe_op op_mul pe_int (pe_ix ix_list (pv 0) pe_int (fun _ _ => rfl)))) pa_nil)) pe_int) pa_nil)) pe_int))
      (pss_cons (ps_set (i := 2) sc_law_draw.nd rfl (by first | exact Or.inl rfl | exact Or.inr rfl) (pe_op op_mod (pe_callTy call_intI (by rfl) (S.free "int") (by decide +kernel) (pa_cons (pe_op op_mul (pv 2) (pe_op op_add (pe_op op_fdiv (pv 2) pe_int) pe_int)) pa_nil)) pe_int))
      (pss_cons (ps_set (i := 2) sc_law_draw.nd rfl (by first | exact Or.inl rfl | exact Or.inr rfl) (pe_op op_mod (pe_callTy call_intI (by rfl) (S.free "int") (by decide +kernel) (pa_cons (pe_op op_mul (pv 2) (pe_op op_add (pe_op op_fdiv (pv 2) pe_int) pe_int)) pa_nil)) pe_int))
      (pss_one (ps_ret (pe_op op_mod (pe_callTy call_intI (by rfl) (S.free "int") (by decide +kernel) (pa_cons (pe_op op_fdiv (pv 2) pe_int) pa_nil)) (pv 1)))))))))), ?_⟩
  simp only [cxK]
  have h0 := hc.at_
  have h9 := hc.cells
  refine ⟨fun σ H' => (∃ v : Option V, σ = [some (.ref a), some (.int many), none, v, none]) ∧ Dr H a c ns H', ?_, ?_⟩
  · walk_at "r"
    refine ite2 (fun e2 => ?_) (fun e2 => ?_)
    · walk_at "r"
      refine ite2 (fun e1 => ?_) (fun e1 => ?_)
      · have e1' : x1 < (ns.map V.int).length := of_decide_eq_true e1
        obtain ⟨z, hz⟩ := atI_ints h1 e1'
        walk_at "r"
        refine r_ixL (SqL.of h9) hz ?_
        walk_at "r"
        refine r_setH hc rfl fun H1 hc1 g1 => ?_
        have h01 := hc1.at_
        walk_at "r"
        refine r_setH hc1 rfl fun H2 hc2 g2 => ?_
        have h02 := hc2.at_
        have e1 := g1.trans g2
        walk_at "r"
        refine ite2 (fun e3 => ?_) (fun e3 => ?_)
        · walk_at "r"
          refine r_setH hc2 rfl fun H3 hc3 g3 => ?_
          exact ⟨⟨_, rfl⟩, e1.trans g3, _, _, _, _, hc3, by omega⟩
        · walk_at "r"
          exact ⟨⟨_, rfl⟩, e1, _, _, _, _, hc2, by omega⟩
      · walk_at "r"
        exact ⟨⟨_, rfl⟩, Xe1.refl, _, _, _, _, hc, h1⟩
    · walk_at "r"
      exact ⟨⟨_, rfl⟩, Xe1.refl, _, _, _, _, hc, h1⟩
  · rintro σ H1 ⟨⟨v, rfl⟩, e1, y1, y2, y3, y4, hc, h1⟩
    clear h0 h9
    have h0 := hc.at_
    walk_at "r"
    refine ite2 (fun e3 => ?_) (fun e3 => ?_)
    · walk_at "r"
      refine r_setH hc rfl fun H2 hc2 g2 => ?_
      walk_at "r"
      exact hQ _ _ (Int.emod_nonneg _ (by omega)) (Int.emod_lt_of_pos _ hm.1) ⟨e1.trans g2, _, _, _, _, hc2, h1⟩
    · walk_at "r"
      refine r_setH hc rfl fun H2 hc2 g2 => ?_
      have h02 := hc2.at_
      walk_at "r"
      exact hQ _ _ (Int.emod_nonneg _ (by omega)) (Int.emod_lt_of_pos _ hm.1) ⟨e1.trans g2, _, _, _, _, hc2, h1⟩
def spHand (K : PySem.W.Frag) : Sp := fun vs H Q _ => ∃ (s : Addr) (ns : List Int), vs = [.ref s] ∧ SqL K H s (ns.map V.int) ∧ ns.length ≤ 1000 ∧ ∀ (a c : Addr) (ms : List Int) (H' : Hp), Ex H H' → H a = none → Hand H' a c ms → Q (.ref a) H'
theorem c_law_hand (S : C54 K mg) : Cal P w K mg base 1 "_law_hand" (spHand K) := by
  refine cal_of S (st := s_law_hand) (by simp [fn, d_law_hand]) (by decide +kernel) sc_law_hand bd_law_hand (fun vs H Q E ⟨a, ns, h, _⟩ => by rw [h] <;> rfl) fun f cdv A outer s H vs Q E tk px hr h => ?_
  obtain ⟨sc, ns, rfl, hsq, hln, hQ⟩ := h
  refine ⟨_, (pss_cons (ps_setLc (i := 1) (own := [("_law_cell", 2)]) (by rfl) sc_law_hand.nd rfl rfl (sw_true rfl rfl rfl (by decide +kernel)) (pi_list (pe_slice sl_list (pv 0) po_none (po_some pe_int))) (blkOk_by (own := [("_law_cell", 2)]) (N := N_law_hand) (sc := defScope s_law_hand) (by decide +kernel)) (fun _ _ _ _ _ => (pg_name (i := 2) sc_law_hand.nd rfl (by first | exact Or.inl rfl | exact Or.inr rfl))) (fun _ _ _ _ _ => pts_nil) (fun _ _ _ _ _ => (pe_callB call_absI (by rfl) (S.free "abs") (by decide +kernel) (pa_cons (pe_callTy call_intI (by rfl) (S.free "int") (by decide +kernel) (pa_cons (pv 2) pa_nil)) pa_nil))))
      (pss_one (ps_ret (pe_lst (pa_cons (pv 1) (pa_cons pe_int (pa_cons pe_int (pa_cons (pe_op op_add pe_int (pe_callB call_lenSq (by rfl) (S.free "len") PySem.boot_len (pa_cons (pv 1) pa_nil))) (pa_cons pe_int pa_nil))))))))), ?_⟩
  simp only [cxK]
  walk_at "r"
  refine ⟨sc, _, rfl, hsq, ?_⟩
  intro p hp
  generalize hU : L2.upd H p _ = H1
  have x1 : Ex H H1 := hU ▸ Evl.Ex.new hp
  have e1 : H1 p = some (.lst (cutV (ns.map V.int) none (some 63))) := hU ▸ upd_same
  obtain ⟨ms, hms, hml⟩ : ∃ ms : List Int, cutV (ns.map V.int) none (some 63) = ms.map V.int ∧ ms.length ≤ 1000 := by
    refine ⟨(ns.drop (HT.sIx (ns.map V.int).length 0 none)).take (HT.sIx (ns.map V.int).length (ns.map V.int).length (some 63) - HT.sIx (ns.map V.int).length 0 none), ?_, ?_⟩
    · unfold cutV
      rw [List.map_take, List.map_drop]
    · rw [List.length_take, List.length_drop]
      omega
  rw [hms] at e1
  refine ⟨_, rfl, ⟨_, SqL.of e1⟩, ?_⟩
  intro D hD
  refine lc1 (P := fun i acc H2 => acc = (ms.take i).map (fun z => V.int (if z < 0 then -z else z)) ∧ Ex H1 H2) walk_list (fun x => rfl) ⟨rfl, Evl.Ex.new hD⟩ (fun i acc H2 ⟨_, e⟩ => SqL.of (e _ _ e1)) ?_ ?_
  · rintro i x acc H2 H3 hi hac hD1 ⟨e2, x2⟩ ⟨rfl, hx⟩
    obtain ⟨z, hz, rfl⟩ : ∃ z, ms[i]? = some z ∧ x = V.int z := by
      rw [List.getElem?_map] at hx
      cases hq : ms[i]? with
      | none => rw [hq] at hx; cases hx
      | some z => rw [hq] at hx; exact ⟨z, rfl, (Option.some.inj hx).symm⟩
    walk_at "r"
    refine lcn hac (by rw [List.length_map] at hi; omega) hD1 ⟨?_, Evl.Ex.mut x2 hD⟩
    rw [take_map _ hz, e2]
  · rintro acc H2 hac hD1 ⟨e2, x2⟩
    walk_at "r"
    intro a ha
    have hDa : D ≠ a := fun z => by rw [z, ha] at hD1; cases hD1
    refine hQ a D (ms.map fun z => if z < 0 then -z else z) _ (Evl.Ex.trans (Evl.Ex.trans x1 x2) (Evl.Ex.new ha)) (Evl.fresh_back (Evl.Ex.trans x1 x2) ha) ⟨0, 0, 1 + acc.length, 0, ⟨upd_same, hDa, ?_⟩, by decide⟩
    rw [upd_ne hDa, hD1, e2, List.length_map, List.take_length, List.map_map]
    rfl
def spAny (K : PySem.W.Frag) : Sp := fun vs H Q _ => ∃ (a c : Addr) (ns : List Int) (t : V), vs = [.ref a, t] ∧ Hand H a c ns ∧
  ((∃ (p : Addr) (xs : List V), t = .ref p ∧ H p = some (.lst xs) ∧ p ≠ a ∧ 0 < xs.length ∧ xs.length ≤ 1000 ∧ ∀ v H', v ∈ xs → Dr H a c ns H' → Q v H') ∨
   (∃ l : List Nat, t = .str (SX.S l) ∧ 0 < l.length ∧ l.length ≤ 1000 ∧ ∀ (ch : Nat) H', ch ∈ l → Dr H a c ns H' → Q (.str (SX.S [ch])) H'))
theorem c_law_any (S : C54 K mg) : Cal P w K mg base 2 "_law_any" (spAny K) := by
  have c_law_draw := c_law_draw (P := P) (w := w) (base := base) S
  refine cal_of S (st := s_law_any) (by simp [fn, d_law_any]) (by decide +kernel) sc_law_any bd_law_any (fun vs H Q E ⟨a, c, ns, t, h, _⟩ => by rw [h] <;> rfl) fun f cdv A outer s H vs Q E tk px hr h => ?_
  obtain ⟨a, c, ns, t, rfl, hh, hQ⟩ := h
  refine ⟨_, (pss_one (ps_ret (pe_ix ix_seq (pv 1) (pe_cS c_law_draw hr (by first | decide | omega) tk (pa_cons (pv 0) (pa_cons (pe_callB call_lenV (by rfl) (S.free "len") PySem.boot_len (pa_cons (pv 1) pa_nil)) pa_nil))) (fun _ _ => rfl)))), ?_⟩
  simp only [cxK]
  walk_at "r"
  rcases hQ with ⟨p, xs, rfl, hp, hpa, h0, hl, hQ⟩ | ⟨l, rfl, h0, hl, hQ⟩
  · refine ⟨_, xs.length, rfl, .inl ⟨xs, SqL.of hp, rfl⟩, ?_⟩
    walk_at "r"
    refine ⟨a, c, ns, _, rfl, hh, by omega, fun r H1 h1 h2 d1 => ?_⟩
    obtain ⟨v, hv, hm⟩ := atI_lt h1 h2
    exact .inl ⟨p, xs, r, v, rfl, rfl, SqL.of (d1.at hp hpa), hv, hQ v H1 hm d1⟩
  · have hS : (SX.S l).length = l.length := SX.S_len l
    refine ⟨_, (SX.S l).length, rfl, ⟨by rw [hS]; exact len1M (by omega), rfl⟩, ?_⟩
    walk_at "r"
    rw [hS]
    refine ⟨a, c, ns, _, rfl, hh, by omega, fun r H1 h1 h2 d1 => ?_⟩
    obtain ⟨v, hv, hm⟩ := atI_lt (xs := l) h1 h2
    exact .inr (.inr (r_ixS (by omega) hv (hQ v H1 hm d1)))
def spWord : Sp := fun vs H Q _ => ∃ (a c : Addr) (ns : List Int), vs = [.ref a] ∧ Hand H a c ns ∧ ∀ (l : List Nat) H', l.length ≤ 6 → l.all Tx.isSg = true → Dr H a c ns H' → Q (.str (SX.S l)) H'
theorem c_law_word (S : C54 K mg) : Cal P w K mg base 3 "_law_word" spWord := by
  have c_law_draw := c_law_draw (P := P) (w := w) (base := base) S
  have c_law_any := c_law_any (P := P) (w := w) (base := base) S
  refine cal_of S (st := s_law_word) (by simp [fn, d_law_word]) (by decide +kernel) sc_law_word bd_law_word (fun vs H Q E ⟨a, c, ns, h, _⟩ => by rw [h] <;> rfl) fun f cdv A outer s H vs Q E tk px hr h => ?_
  obtain ⟨a, c, ns, rfl, hh, hQ⟩ := h
  refine ⟨_, (pss_cons (ps_set (i := 1) sc_law_word.nd rfl (by first | exact Or.inl rfl | exact Or.inr rfl) (pe_sl [97, 98, 39, 126, 40, 41, 32, 44, 35, 46, 45, 48, 49, 50, 57, 126, 39, 122, 33]))
      (pss_one (ps_ret (pe_joinS (pe_sl []) (pe_lc (own := [("_law_k", 2)]) (by rfl) sc_law_word.nd (pi_range1 rfl (S.free "range") (pa_cons (pe_cS c_law_draw hr (by first | decide | omega) tk (pa_cons (pv 0) (pa_cons pe_int pa_nil))) pa_nil)) (blkOk_by (own := [("_law_k", 2)]) (N := N_law_word) (sc := defScope s_law_word) (by decide +kernel)) (fun _ _ _ _ _ => (pg_name (i := 2) sc_law_word.nd rfl (by first | exact Or.inl rfl | exact Or.inr rfl))) (fun _ _ _ _ _ => pts_nil) (fun _ _ _ _ _ => (pe_c c_law_any hr (by first | decide | omega) (pa_cons (pv 0) (pa_cons (pv 1) pa_nil))))))))), ?_⟩
  simp only [cxK]
  walk_at "r"
  refine ⟨a, c, ns, _, rfl, hh, by decide, fun r H1 h1 h2 d1 => ?_⟩
  walk_at "r"
  refine ⟨r, rfl, by omega, by omega, ?_⟩
  intro D hD
  have hDa := d1.hand.neA hD
  refine lc1 (P := fun i acc H2 => (∃ l : List Nat, acc = l.map (fun ch => V.str (SX.S [ch])) ∧ l.all Tx.isSg = true) ∧ Dr H1 a c ns H2) walk_range (fun x => rfl) ⟨⟨[], rfl, rfl⟩, (Dr.refl d1.hand).own d1.hand hD⟩ (fun _ _ _ _ => trivial) ?_ ?_
  · rintro i x acc H2 H3 hi hac hD1 ⟨⟨l, e2, hl⟩, d2⟩ ⟨rfl, rfl⟩
    walk_at "r"
    refine ⟨a, c, ns, _, rfl, d2.hand, .inr ⟨_, rfl, by decide, by decide, fun ch H4 hch d3 => ?_⟩⟩
    refine lcn hac (by omega) (d3.at hD1 hDa) ⟨⟨l ++ [ch], ?_, ?_⟩, (d2.trans d3).own d1.hand hD⟩
    · rw [e2, List.map_append]
      rfl
    · rw [List.all_append, hl]
      have : ∀ z ∈ [97, 98, 39, 126, 40, 41, 32, 44, 35, 46, 45, 48, 49, 50, 57, 126, 39, 122, 33], Tx.isSg z = true := by decide
      simp [this ch hch]
  · rintro acc H2 hac hD1 ⟨⟨l, e2, hl⟩, d2⟩
    have hll : l.length ≤ 6 := by
      rw [e2, List.length_map] at hac
      omega
    have e3 : SqL K H2 D ((l.map fun ch => [ch]).map fun l => V.str (SX.S l)) := SqL.of (by rw [hD1, e2, List.map_map]; rfl)
    refine r_join e3 ?_ ?_
    · have e4 : ((l.map fun ch => [ch]).map (·.length)).sum = l.length := by
        clear hac hQ e2 e3 hl hll
        induction l with
        | nil => rfl
        | cons ch l ih => simp only [List.map_cons, List.sum_cons, List.length_cons, List.length_nil] at ih ⊢; omega
      rw [e4, List.length_map]
      simp only [List.length_nil]
      omega
    · rw [joinL_nil]
      have e4 : (l.map fun ch => [ch]).flatten = l := by
        clear hac hQ e2 e3 hl hll
        induction l with
        | nil => rfl
        | cons ch l ih => simp only [List.map_cons, List.flatten_cons, ih]; rfl
      rw [e4]
      exact hQ l H2 hll hl (d1.trans d2)
end
end K54
--@law law_k54_whole_things_as_texts h54.json
set_option Elab.async false
set_option linter.all false
set_option maxRecDepth 100000
set_option maxHeartbeats 4000000
namespace K54
open PySem PySem.Spec PyProof.Rows L2 KB
open SX (S)
local macro_rules | `(tactic| walk_at "s") => `(tactic| first
  | with_reducible refine r_seq ?_
  | with_reducible refine r_set ?_
  | ((with_reducible show tVar _ _ _ _); refine r_var rfl ?_)
  | with_reducible refine r_c ?_
  | with_reducible refine r_op ?_
  | with_reducible refine r_cb ?_
  | with_reducible refine r_cons ?_
  | with_reducible refine r_nil ?_
  | with_reducible refine r_test ?_
  | with_reducible refine r_if ?_
  | with_reducible refine r_I0 ?_
  | with_reducible refine r_eqS1 ?_
  | with_reducible refine r_neS1 ?_
  | with_reducible refine r_eqSL ?_
  | with_reducible refine r_neSL ?_
  | with_reducible refine r_eqI ?_
  | ((with_reducible show rEq _ _ _ _); refine r_eq ?_)
  | ((with_reducible show rNe _ _ _ _); refine r_ne ?_)
  | with_reducible refine r_bl ?_
  | with_reducible refine r_blV ?_
  | with_reducible refine r_intV ?_
  | with_reducible refine r_ret ?_
  | with_reducible refine r_next ?_
  | with_reducible refine r_callS ?_
  | with_reducible refine r_call ?_
  | with_reducible refine r_asg ?_
  | with_reducible refine r_drop ?_
  | with_reducible refine r_retN ?_
  | with_reducible refine r_un ?_
  | with_reducible refine r_U ?_
  | with_reducible refine r_tup ?_
  | with_reducible refine r_lst ?_
  | with_reducible refine r_andV ?_
  | with_reducible refine r_orV ?_
  | with_reducible refine r_notV ?_
  | with_reducible refine r_ifE ?_
  | with_reducible refine r_meth ?_
  | with_reducible refine r_make ?_
  | with_reducible refine r_fld ?_
  | with_reducible refine r_sl ?_
  | with_reducible refine r_nop ?_
  | with_reducible refine r_part ?_
  | with_reducible refine r_B ?_
  | with_reducible refine r_and ?_
  | with_reducible refine r_or ?_
  | with_reducible refine r_not ?_
  | with_reducible refine r_chain ?_
  | with_reducible refine r_bm0 ?_
  | with_reducible refine r_bm ?_
  | with_reducible refine r_m1 ?_
  | with_reducible refine r_gname ?_
  | with_reducible refine r_gnil ?_
  | with_reducible refine r_gcons ?_
  | with_reducible refine r_gsub ?_
  | with_reducible refine r_sfld ?_
  | with_reducible refine r_faug ?_
  | with_reducible refine r_rAdd ?_
  | with_reducible refine r_rSub ?_
  | with_reducible refine r_ilist ?_
  | with_reducible refine r_itup ?_
  | with_reducible refine r_irng1 ?_
  | with_reducible refine r_lc ?_
  | with_reducible refine r_for ?_
  | with_reducible refine r_istr ?_
  | with_reducible refine r_isN ?_
  | with_reducible refine r_isnN ?_
  | with_reducible refine r_abs ?_
  | with_reducible refine r_int1 ?_
  | with_reducible refine r_leS ?_
  | with_reducible refine r_brk ?_
  | with_reducible refine r_strV ?_
  | ((with_reducible show rLenS _ _ _); refine r_lenS (by omega) ?_)
  | ((with_reducible show rAddS _ _ _ _); refine r_addS (by first | omega | (simp only [List.length_append, List.length_cons, List.length_nil]; omega)) ?_)
  | with_reducible refine r_inSg ?_
  | with_reducible refine r_notInSg ?_
  | with_reducible refine r_strE ?_
  | with_reducible refine r_szle (by first | decide | (simp only [List.length_cons, List.length_nil]; omega)) ?_
  | with_reducible refine r_revS ?_
  | ((with_reducible show rIxL _ (.ref _) (.int _) _ _); apply r_ixL; (· walk_at "sq"); (· exact rfl))
  | ((with_reducible show rIxT _ (.ref _) (.int _) _ _); apply r_ixT; (· walk_at "sq"); (· exact rfl))
  | ((with_reducible show rLenSq _ [.ref _] _ _); first | (apply r_lenL; (· walk_at "sq")) | (apply r_lenT; (· walk_at "sq")))
  | ((with_reducible show rI _ _ (.int _) (.int _) _ _); refine r_I (by walk_at "ar") ?_)
  | with_reducible refine r_ct ?_)
local macro_rules | `(tactic| walk_at "sq") => `(tactic| first
  | assumption
  | exact SqL.of (by assumption)
  | exact SqT.of (by assumption)
  | exact SqL.of upd_same
  | exact SqT.of upd_same)
local macro_rules | `(tactic| walk_at "ar") => `(tactic| first
  | exact Or.inl ⟨by omega, by omega⟩
  | exact Or.inr ⟨by omega, by omega⟩
  | exact ⟨by omega, by omega⟩
  | exact ⟨by decide, by decide, by decide⟩
  | (show (0 : Int) < _; omega)
  | omega)
local macro_rules | `(tactic| walk_at "r") => `(tactic| repeat walk_at "s")

section
variable {P : Program} {w : World} {K : PySem.W.Frag} {mg : Str → Option Value} {base : Heap}
theorem joinL_le (xs : List (List Nat)) : (TL.joinL [44] xs).length ≤ (xs.map (·.length)).sum + xs.length := by
  have h := joinL_len xs
  split at h
  · rename_i z
    rw [z]
    simp [TL.joinL]
  · omega
def bnd : Nat → Nat
  | 0 => 31
  | k + 1 => 3 * bnd k + 5
theorem bnd_ge : ∀ k, 31 ≤ bnd k
  | 0 => Nat.le_refl _
  | k + 1 => by
    have := bnd_ge k
    unfold bnd
    omega
def spThing (n : Nat) : Sp := fun vs H Q _ => ∃ (a c : Addr) (ns : List Int) (k : Nat), vs = [.ref a, .int (k : Nat)] ∧ k < n ∧ Hand H a c ns ∧ ∀ v d H', TD H' v d → Tx.isTh d k = true → (Tx.pk d).length ≤ bnd k → Dr H a c ns H' → Q v H'
theorem bot_law_thing (S : C54 K mg) : Cal P w K mg base 1 "_law_thing" spBot :=
  cal_of S (st := s_law_thing) (by simp [fn, d_law_thing]) (by decide +kernel) sc_law_thing bd_law_thing (fun _ _ _ _ h => h.elim) fun f cdv A outer s H vs Q E tk px hr h => h.elim
theorem intC_len {i : Int} (h : -999999999999999999999999999999 ≤ i ∧ i ≤ 999999999999999999999999999999) : (Tx.intC i).length ≤ 31 := by
  have := Tx.numL_len30 (n := i.natAbs) (by omega)
  unfold Tx.intC
  split
  · simp only [List.length_cons]; omega
  · omega
theorem esc_len (l : List Nat) : (Tx.escC l).length ≤ 2 * l.length := by
  induction l with
  | nil => simp [Tx.escC]
  | cons c l ih =>
    simp only [Tx.escC, List.flatMap_cons, List.length_append, List.length_cons] at ih ⊢
    have : (Tx.esc1 c).length ≤ 2 := by
      unfold Tx.esc1
      split <;> simp
    omega
theorem c_law_thing (S : C54 K mg) : ∀ n : Nat, Cal P w K mg base (n + 4) "_law_thing" (spThing n)
  | 0 => ((bot_law_thing S).mono (by omega)).imp fun vs H Q E ⟨_, _, _, k, _, h, _⟩ => absurd h (Nat.not_lt_zero k)
  | n + 1 => by
    have c_law_draw := c_law_draw (P := P) (w := w) (base := base) S
    have c_law_any := c_law_any (P := P) (w := w) (base := base) S
    have c_law_word := c_law_word (P := P) (w := w) (base := base) S
    have c_law_thing := c_law_thing S n
    refine cal_of S (st := s_law_thing) (by simp [fn, d_law_thing]) (by decide +kernel) sc_law_thing bd_law_thing (fun vs H Q E ⟨a, c, ns, k, h, _⟩ => by rw [h] <;> rfl) fun f cdv A outer s H vs Q E tk px hr h => ?_
    obtain ⟨a, c, ns, k, rfl, hk, hh, hQ⟩ := h
    have hb := bnd_ge k
    refine ⟨_, (Evl.pss_cut (ps_set (i := 2) sc_law_thing.nd rfl (by first | exact Or.inl rfl | exact Or.inr rfl) (pe_cS c_law_draw hr (by first | decide | omega) tk (pa_cons (pv 0) (pa_cons (pe_ifExp (pt_cmpR op_gt (pv 1) pe_int (nomark _)) pe_int pe_int) pa_nil))))
      (pss_cons (ps_if (pt_cmpR op_eq (pv 2) pe_int (nomark _)) (pss_one (ps_ret (pe_cS c_law_any hr (by first | decide | omega) tk (pa_cons (pv 0) (pa_cons (pe_lst (pa_cons pe_int (pa_cons pe_int (pa_cons (pe_un un_neg pe_int) (pa_cons pe_int (pa_cons pe_int (pa_cons (pe_un un_neg pe_int) (pa_cons (pe_op op_sub (pe_op op_pow pe_int pe_int) pe_int) (pa_cons (pe_op op_add (pe_un un_neg (pe_op op_pow pe_int pe_int)) pe_int) (pa_cons pe_int pa_nil)))))))))) pa_nil))))) pss_nil)
      (pss_cons (ps_if (pt_cmpR op_eq (pv 2) pe_int (nomark _)) (pss_one (ps_ret pe_non)) pss_nil)
      (pss_cons (ps_if (pt_cmpR op_lt (pv 2) pe_int (nomark _)) (pss_one (ps_ret (pe_cS c_law_word hr (by first | decide | omega) tk (pa_cons (pv 0) pa_nil)))) pss_nil)
      (pss_one (ps_ret (pe_callTy call_tupOf (by rfl) (S.free "tuple") (by decide +kernel) (pa_cons (pe_lc (own := [("_law_k", 3)]) (by rfl) sc_law_thing.nd (pi_range1 rfl (S.free "range") (pa_cons (pe_cS c_law_draw hr (by first | decide | omega) tk (pa_cons (pv 0) (pa_cons pe_int pa_nil))) pa_nil)) (blkOk_by (own := [("_law_k", 3)]) (N := N_law_thing) (sc := defScope s_law_thing) (by decide +kernel)) (fun _ _ _ _ _ => (pg_name (i := 3) sc_law_thing.nd rfl (by first | exact Or.inl rfl | exact Or.inr rfl))) (fun _ _ _ _ _ => pts_nil) (fun _ _ _ _ _ => (pe_c c_law_thing hr (by first | decide | omega) (pa_cons (pv 0) (pa_cons (pe_op op_sub (pv 1) pe_int) pa_nil))))) pa_nil)))))))), ?_⟩
    simp only [cxK]
    refine ⟨fun σ H' => (∃ r : Int, σ = [some (.ref a), some (.int (k : Nat)), some (.int r), none] ∧ 0 ≤ r ∧ r < 6 ∧ (4 ≤ r → 0 < k)) ∧ Dr H a c ns H', ?_, ?_⟩
    · walk_at "r"
      refine ite2 (fun h1 => ?_) (fun h1 => ?_)
      · have h1 : (0 : Int) < k := of_decide_eq_true h1
        walk_at "r"
        refine ⟨a, c, ns, _, rfl, hh, by decide, fun r H1 h2 h3 d1 => ?_⟩
        walk_at "r"
        exact ⟨⟨r, rfl, h2, h3, fun _ => by omega⟩, d1⟩
      · walk_at "r"
        refine ⟨a, c, ns, _, rfl, hh, by decide, fun r H1 h2 h3 d1 => ?_⟩
        walk_at "r"
        exact ⟨⟨r, rfl, h2, by omega, fun _ => by omega⟩, d1⟩
    · rintro σ H1 ⟨⟨r, rfl, h0, h6, h4⟩, d1⟩
      walk_at "r"
      refine ite2 (fun h1 => ?_) (fun h1 => ?_)
      · walk_at "r"
        intro p hp
        have hpa := d1.hand.neA hp
        generalize hU : L2.upd H1 p _ = H2
        have x2 : Ex H1 H2 := hU ▸ Evl.Ex.new hp
        have e2 : H2 p = some (.lst ([0, 1, -1, 7, 10, -205, 999999999999999999999999999999, -999999999999999999999999999999, 99991].map V.int)) := hU ▸ upd_same
        walk_at "r"
        refine ⟨a, c, ns, _, rfl, d1.hand.ex x2, .inl ⟨p, _, rfl, e2, hpa, by decide, by decide, fun v H3 hv d3 => ?_⟩⟩
        obtain ⟨z, hz, rfl⟩ := List.mem_map.mp hv
        have hzb : -999999999999999999999999999999 ≤ z ∧ z ≤ 999999999999999999999999999999 := by
          have : ∀ y ∈ ([0, 1, -1, 7, 10, -205, 999999999999999999999999999999, -999999999999999999999999999999, 99991] : List Int), -999999999999999999999999999999 ≤ y ∧ y ≤ 999999999999999999999999999999 := by decide
          exact this z hz
        refine hQ _ _ _ (.int z) (by unfold Tx.isTh; exact decide_eq_true hzb) ?_ ((d1.trans (Dr.ex d1.hand x2)).trans d3)
        have := intC_len hzb
        have e : (Tx.pk (.int z)) = Tx.intC z := by simp [Tx.pk]
        rw [e]
        omega
      · have h1 : r ≠ 0 := fun z => h1 (by rw [z]; rfl)
        walk_at "r"
        refine ite2 (fun h2 => ?_) (fun h2 => ?_)
        · walk_at "r"
          exact hQ _ _ _ .non (by simp [Tx.isTh]) (by simp [Tx.pk]; omega) d1
        · have h2 : r ≠ 1 := fun z => h2 (by rw [z]; rfl)
          walk_at "r"
          refine ite2 (fun h3 => ?_) (fun h3 => ?_)
          · walk_at "r"
            refine ⟨a, c, ns, rfl, d1.hand, fun l H2 hl hs d2 => ?_⟩
            refine hQ _ _ _ (.str l) (by unfold Tx.isTh; exact hs) ?_ (d1.trans d2)
            have := esc_len l
            have e : (Tx.pk (.str (SX.S l))).length = (Tx.escC l).length + 2 := by simp [Tx.pk]
            omega
          · have h3 : ¬ r < 4 := fun z => h3 (decide_eq_true z)
            obtain ⟨m, rfl⟩ : ∃ m, k = m + 1 := ⟨k - 1, by omega⟩
            walk_at "r"
            refine ⟨a, c, ns, _, rfl, d1.hand, by decide, fun q H2 h5 h7 d2 => ?_⟩
            walk_at "r"
            refine ⟨q, rfl, by omega, by omega, ?_⟩
            intro D hD
            have hDa := d2.hand.neA hD
            refine lc1 (P := fun i acc H3 => (∃ ds : List PyData, TDs H3 acc ds ∧ Tx.isThs ds m = true ∧ ((Tx.pks ds).map (·.length)).sum ≤ i * bnd m) ∧ Dr H2 a c ns H3) walk_range (fun x => rfl) ⟨⟨[], .nil, rfl, by simp [Tx.pks]⟩, (Dr.refl d2.hand).own d2.hand hD⟩ (fun _ _ _ _ => trivial) ?_ ?_
            · rintro i x acc H3 H4 hi hac hD1 ⟨⟨ds, hds, hth, hsz⟩, d3⟩ ⟨rfl, rfl⟩
              walk_at "r"
              refine ⟨a, c, ns, m, by simp, by omega, d3.hand, fun v d H5 hv hvt hvl d4 => ?_⟩
              have hD5 := d4.at hD1 hDa
              have kt : KT H5 (L2.upd H5 D (.lst (acc ++ [v]))) := KT.upd fun xs z => by rw [hD5] at z; cases z
              refine lcn hac (by omega) hD5 ⟨⟨ds ++ [d], ?_, ?_, ?_⟩, (d3.trans d4).own d2.hand hD⟩
              · exact TDs.app (hds.kt ((d4.kt d3.hand).trans kt)) (.cons (hv.kt kt) .nil)
              · rw [isThs_all] at hth ⊢
                rw [List.all_append, hth]
                simp [hvt]
              · rw [pks_eq] at hsz ⊢
                rw [List.map_append, List.map_append, List.sum_append, Nat.succ_mul]
                simp only [List.map_cons, List.map_nil, List.sum_cons, List.sum_nil]
                omega
            · rintro acc H3 hac hD1 ⟨⟨ds, hds, hth, hsz⟩, d3⟩
              walk_at "r"
              refine r_tupOfL (SqL.of hD1) fun l hl => ?_
              have x4 : Ex H3 (L2.upd H3 l (.tup acc)) := Evl.Ex.new hl
              refine hQ _ (.tuple ds) _ (.tup upd_same (hds.kt (Ex.kt x4))) hth ?_ (((d1.trans d2).trans d3).trans (Dr.ex d3.hand x4))
              have hlen := hds.len
              have hj := joinL_le (Tx.pks ds)
              have hpl : (Tx.pks ds).length = ds.length := by rw [pks_eq, List.length_map]
              have e : (Tx.pk (.tuple ds)).length = (TL.joinL [44] (Tx.pks ds)).length + 2 := by simp [Tx.pk]
              have hq3 : q.toNat ≤ 3 := by omega
              have hm : q.toNat * bnd m ≤ 3 * bnd m := Nat.mul_le_mul_right _ hq3
              rw [e]
              unfold bnd
              omega
end
end K54
--@law law_k54_whole_things_as_texts h54.json
set_option Elab.async false
set_option linter.all false
set_option maxRecDepth 100000
set_option maxHeartbeats 4000000
namespace K54
open PySem PySem.Spec PyProof.Rows L2 KB
open SX (S)
local macro_rules | `(tactic| walk_at "s") => `(tactic| first
  | with_reducible refine r_seq ?_
  | with_reducible refine r_set ?_
  | ((with_reducible show tVar _ _ _ _); refine r_var rfl ?_)
  | with_reducible refine r_c ?_
  | with_reducible refine r_op ?_
  | with_reducible refine r_cb ?_
  | with_reducible refine r_cons ?_
  | with_reducible refine r_nil ?_
  | with_reducible refine r_test ?_
  | with_reducible refine r_if ?_
  | with_reducible refine r_I0 ?_
  | with_reducible refine r_eqS1 ?_
  | with_reducible refine r_neS1 ?_
  | with_reducible refine r_eqSL ?_
  | with_reducible refine r_neSL ?_
  | with_reducible refine r_eqI ?_
  | ((with_reducible show rEq _ _ _ _); refine r_eq ?_)
  | ((with_reducible show rNe _ _ _ _); refine r_ne ?_)
  | with_reducible refine r_bl ?_
  | with_reducible refine r_blV ?_
  | with_reducible refine r_intV ?_
  | with_reducible refine r_ret ?_
  | with_reducible refine r_next ?_
  | with_reducible refine r_callS ?_
  | with_reducible refine r_call ?_
  | with_reducible refine r_asg ?_
  | with_reducible refine r_drop ?_
  | with_reducible refine r_retN ?_
  | with_reducible refine r_un ?_
  | with_reducible refine r_U ?_
  | with_reducible refine r_tup ?_
  | with_reducible refine r_lst ?_
  | with_reducible refine r_andV ?_
  | with_reducible refine r_orV ?_
  | with_reducible refine r_notV ?_
  | with_reducible refine r_ifE ?_
  | with_reducible refine r_meth ?_
  | with_reducible refine r_make ?_
  | with_reducible refine r_fld ?_
  | with_reducible refine r_sl ?_
  | with_reducible refine r_nop ?_
  | with_reducible refine r_part ?_
  | with_reducible refine r_B ?_
  | with_reducible refine r_and ?_
  | with_reducible refine r_or ?_
  | with_reducible refine r_not ?_
  | with_reducible refine r_chain ?_
  | with_reducible refine r_bm0 ?_
  | with_reducible refine r_bm ?_
  | with_reducible refine r_m1 ?_
  | with_reducible refine r_gname ?_
  | with_reducible refine r_gnil ?_
  | with_reducible refine r_gcons ?_
  | with_reducible refine r_gsub ?_
  | with_reducible refine r_sfld ?_
  | with_reducible refine r_faug ?_
  | with_reducible refine r_rAdd ?_
  | with_reducible refine r_rSub ?_
  | with_reducible refine r_ilist ?_
  | with_reducible refine r_itup ?_
  | with_reducible refine r_irng1 ?_
  | with_reducible refine r_lc ?_
  | with_reducible refine r_for ?_
  | with_reducible refine r_istr ?_
  | with_reducible refine r_isN ?_
  | with_reducible refine r_isnN ?_
  | with_reducible refine r_abs ?_
  | with_reducible refine r_int1 ?_
  | with_reducible refine r_leS ?_
  | with_reducible refine r_brk ?_
  | with_reducible refine r_strV ?_
  | ((with_reducible show rLenS _ _ _); refine r_lenS (by omega) ?_)
  | ((with_reducible show rAddS _ _ _ _); refine r_addS (by first | omega | (simp only [List.length_append, List.length_cons, List.length_nil]; omega)) ?_)
  | with_reducible refine r_inSg ?_
  | with_reducible refine r_notInSg ?_
  | with_reducible refine r_strE ?_
  | with_reducible refine r_szle (by first | decide | (simp only [List.length_cons, List.length_nil]; omega)) ?_
  | with_reducible refine r_revS ?_
  | ((with_reducible show rIxL _ (.ref _) (.int _) _ _); apply r_ixL; (· walk_at "sq"); (· exact rfl))
  | ((with_reducible show rIxT _ (.ref _) (.int _) _ _); apply r_ixT; (· walk_at "sq"); (· exact rfl))
  | ((with_reducible show rLenSq _ [.ref _] _ _); first | (apply r_lenL; (· walk_at "sq")) | (apply r_lenT; (· walk_at "sq")))
  | ((with_reducible show rI _ _ (.int _) (.int _) _ _); refine r_I (by walk_at "ar") ?_)
  | with_reducible refine r_ct ?_)
local macro_rules | `(tactic| walk_at "sq") => `(tactic| first
  | assumption
  | exact SqL.of (by assumption)
  | exact SqT.of (by assumption)
  | exact SqL.of upd_same
  | exact SqT.of upd_same)
local macro_rules | `(tactic| walk_at "ar") => `(tactic| first
  | exact Or.inl ⟨by omega, by omega⟩
  | exact Or.inr ⟨by omega, by omega⟩
  | exact ⟨by omega, by omega⟩
  | exact ⟨by decide, by decide, by decide⟩
  | (show (0 : Int) < _; omega)
  | omega)
local macro_rules | `(tactic| walk_at "r") => `(tactic| repeat walk_at "s")

section
variable {P : Program} {w : World} {K : PySem.W.Frag} {mg : Str → Option Value} {base : Heap}
def spNested : Sp := fun vs H Q _ => ∃ (a c : Addr) (ns : List Int) (k : Nat), vs = [.ref a, .int (k : Nat)] ∧ 1 ≤ k ∧ k ≤ 30 ∧ Hand H a c ns ∧ ∀ v d H', TD H' v d → Tx.isTh d 30 = true → (Tx.pk d).length ≤ 1000 → Dr H a c ns H' → Q v H'
theorem c_law_nested (S : C54 K mg) : Cal P w K mg base 3 "_law_nested" spNested := by
  have c_law_draw := c_law_draw (P := P) (w := w) (base := base) S
  have c_law_any := c_law_any (P := P) (w := w) (base := base) S
  refine cal_of S (st := s_law_nested) (by simp [fn, d_law_nested]) (by decide +kernel) sc_law_nested bd_law_nested (fun vs H Q E ⟨a, c, ns, k, h, _⟩ => by rw [h] <;> rfl) fun f cdv A outer s H vs Q E tk px hr h => ?_
  obtain ⟨a, c, ns, k, rfl, hk1, hk2, hh, hQ⟩ := h
  refine ⟨_, (Evl.pss_cut (ps_set (i := 2) sc_law_nested.nd rfl (by first | exact Or.inl rfl | exact Or.inr rfl) (pe_cS c_law_any hr (by first | decide | omega) tk (pa_cons (pv 0) (pa_cons (pe_lst (pa_cons (pe_tup pa_nil) (pa_cons (pe_tup (pa_cons pe_int pa_nil)) (pa_cons (pe_tup (pa_cons (pe_sl [97]) pa_nil)) pa_nil)))) pa_nil))))
      (pss_cons (ps_for (passes_of rfl) rfl (pi_range1 rfl (S.free "range") (pa_cons (pe_op op_sub (pv 1) pe_int) pa_nil)) (pg_name (i := 3) sc_law_nested.nd rfl (by first | exact Or.inl rfl | exact Or.inr rfl)) (pss_one (ps_set (i := 2) sc_law_nested.nd rfl (by first | exact Or.inl rfl | exact Or.inr rfl) (pe_ifExp (pt_cmpR op_gt (pe_cS c_law_draw hr (by first | decide | omega) tk (pa_cons (pv 0) (pa_cons pe_int pa_nil))) pe_int (nomark _)) (pe_tup (pa_cons (pv 2) pa_nil)) (pe_tup (pa_cons pe_non (pa_cons (pv 2) pa_nil)))))))
      (pss_one (ps_ret (pv 2))))), ?_⟩
  refine ⟨fun σ H' => ∃ v d, σ = [some (.ref a), some (.int (k : Nat)), some v, none] ∧ TD H' v d ∧ Tx.isTh d 1 = true ∧ (Tx.pk d).length ≤ 10 ∧ Dr H a c ns H', ?_, ?_⟩
  · simp only [cxK]
    walk_at "r"
    intro p1 hp1
    generalize hU1 : L2.upd H p1 _ = H1
    have x1 : Ex H H1 := hU1 ▸ Evl.Ex.new hp1
    have e1 : H1 p1 = some (.tup []) := hU1 ▸ upd_same
    walk_at "r"
    intro p2 hp2
    generalize hU2 : L2.upd H1 p2 _ = H2
    have x2 : Ex H1 H2 := hU2 ▸ Evl.Ex.new hp2
    have e2 : H2 p2 = some (.tup [V.int 3]) := hU2 ▸ upd_same
    walk_at "r"
    intro p3 hp3
    generalize hU3 : L2.upd H2 p3 _ = H3
    have x3 : Ex H2 H3 := hU3 ▸ Evl.Ex.new hp3
    have e3 : H3 p3 = some (.tup [V.str (SX.S [97])]) := hU3 ▸ upd_same
    walk_at "r"
    intro p4 hp4
    generalize hU4 : L2.upd H3 p4 _ = H4
    have x4 : Ex H3 H4 := hU4 ▸ Evl.Ex.new hp4
    have e4 : H4 p4 = some (.lst [V.ref p1, V.ref p2, V.ref p3]) := hU4 ▸ upd_same
    walk_at "r"
    have x14 : Ex H1 H4 := Evl.Ex.trans (Evl.Ex.trans x2 x3) x4
    have x04 : Ex H H4 := Evl.Ex.trans x1 x14
    have h3 := hh.ex (Evl.Ex.trans (Evl.Ex.trans x1 x2) x3)
    have h4 := hh.ex x04
    refine ⟨a, c, ns, _, rfl, h4, .inl ⟨p4, _, rfl, e4, h3.neA hp4, by simp, by simp, fun v H5 hv d5 => ?_⟩⟩
    walk_at "r"
    have kt := d5.kt h4
    have dd : Dr H a c ns H5 := (Dr.ex hh x04).trans d5
    have hv' : v = .ref p1 ∨ v = .ref p2 ∨ v = .ref p3 := by simpa using hv
    rcases hv' with rfl | rfl | rfl
    · exact ⟨_, .tuple [], rfl, .tup (kt _ _ (x14 _ _ e1)) .nil, rfl, by decide, dd⟩
    · exact ⟨_, .tuple [.int 3], rfl, .tup (kt _ _ (x4 _ _ (x3 _ _ e2))) (.cons (.int 3) .nil), by decide, by decide, dd⟩
    · exact ⟨_, .tuple [.str (SX.S [97])], rfl, .tup (kt _ _ (x4 _ _ e3)) (.cons (.str _) .nil), by decide, by decide, dd⟩
  · simp only [cxK]
    rintro σ H1 ⟨v, d, rfl, hd, hth, hl, d1⟩
    walk_at "r"
    refine ⟨(k : Int) - 1, rfl, by omega, by omega, ?_⟩
    refine fo1 walk_range (fun i σ H2 => ∃ v d u, σ = [some (.ref a), some (.int (k : Nat)), some v, u] ∧ TD H2 v d ∧ Tx.isTh d (i + 1) = true ∧ (Tx.pk d).length ≤ 10 + 4 * i ∧ Dr H a c ns H2) ⟨v, d, none, rfl, hd, hth, by omega, d1⟩ (fun _ _ _ _ => trivial) ?_ ?_
    · rintro i x σ H2 H3 hi ⟨v, d, u, rfl, hd, hth, hl, d2⟩ ⟨rfl, rfl⟩
      walk_at "r"
      refine ⟨a, c, ns, _, rfl, d2.hand, by decide, fun r H3 h5 h7 d3 => ?_⟩
      walk_at "r"
      have kt := d3.kt d2.hand
      refine ite2 (fun h1 => ?_) (fun h1 => ?_)
      · walk_at "r"
        intro p hp
        generalize hU : L2.upd H3 p _ = H4
        have x4 : Ex H3 H4 := hU ▸ Evl.Ex.new hp
        have e4 : H4 p = some (.tup [v]) := hU ▸ upd_same
        walk_at "r"
        refine ⟨_, .tuple [d], _, rfl, .tup e4 (.cons (hd.kt (kt.trans (Ex.kt x4))) .nil), ?_, ?_, (d2.trans d3).trans (Dr.ex d3.hand x4)⟩
        · show Tx.isThs [d] (i + 1) = true
          simp only [Tx.isThs, hth, Bool.and_self]
        · simp only [Tx.pk, Tx.pks, TL.joinL, List.length_cons, List.length_append, List.length_nil]
          omega
      · walk_at "r"
        intro p hp
        generalize hU : L2.upd H3 p _ = H4
        have x4 : Ex H3 H4 := hU ▸ Evl.Ex.new hp
        have e4 : H4 p = some (.tup [.non, v]) := hU ▸ upd_same
        walk_at "r"
        refine ⟨_, .tuple [.none, d], _, rfl, .tup e4 (.cons .non (.cons (hd.kt (kt.trans (Ex.kt x4))) .nil)), ?_, ?_, (d2.trans d3).trans (Dr.ex d3.hand x4)⟩
        · show Tx.isThs [.none, d] (i + 1) = true
          simp only [Tx.isThs, hth, Bool.and_self]
          simp [Tx.isTh]
        · simp only [Tx.pk, Tx.pks, TL.joinL, List.length_cons, List.length_append, List.length_nil]
          omega
    · rintro σ H2 ⟨v, d, u, rfl, hd, hth, hl, d2⟩
      walk_at "r"
      exact hQ _ _ _ hd (isTh_mono d hth (by omega)) (by omega) d2
end
end K54
--@law law_k54_whole_things_as_texts h54.json
set_option Elab.async false
set_option linter.all false
set_option maxRecDepth 100000
set_option maxHeartbeats 4000000
namespace K54
open PySem PySem.Spec PyProof.Rows L2 KB
open SX (S)
local macro_rules | `(tactic| walk_at "s") => `(tactic| first
  | with_reducible refine r_seq ?_
  | with_reducible refine r_set ?_
  | ((with_reducible show tVar _ _ _ _); refine r_var rfl ?_)
  | with_reducible refine r_c ?_
  | with_reducible refine r_op ?_
  | with_reducible refine r_cb ?_
  | with_reducible refine r_cons ?_
  | with_reducible refine r_nil ?_
  | with_reducible refine r_test ?_
  | with_reducible refine r_if ?_
  | with_reducible refine r_I0 ?_
  | with_reducible refine r_eqS1 ?_
  | with_reducible refine r_neS1 ?_
  | with_reducible refine r_eqSL ?_
  | with_reducible refine r_neSL ?_
  | with_reducible refine r_eqI ?_
  | ((with_reducible show rEq _ _ _ _); refine r_eq ?_)
  | ((with_reducible show rNe _ _ _ _); refine r_ne ?_)
  | with_reducible refine r_bl ?_
  | with_reducible refine r_blV ?_
  | with_reducible refine r_intV ?_
  | with_reducible refine r_ret ?_
  | with_reducible refine r_next ?_
  | with_reducible refine r_callS ?_
  | with_reducible refine r_call ?_
  | with_reducible refine r_asg ?_
  | with_reducible refine r_drop ?_
  | with_reducible refine r_retN ?_
  | with_reducible refine r_un ?_
  | with_reducible refine r_U ?_
  | with_reducible refine r_tup ?_
  | with_reducible refine r_lst ?_
  | with_reducible refine r_andV ?_
  | with_reducible refine r_orV ?_
  | with_reducible refine r_notV ?_
  | with_reducible refine r_ifE ?_
  | with_reducible refine r_meth ?_
  | with_reducible refine r_make ?_
  | with_reducible refine r_fld ?_
  | with_reducible refine r_sl ?_
  | with_reducible refine r_nop ?_
  | with_reducible refine r_part ?_
  | with_reducible refine r_B ?_
  | with_reducible refine r_and ?_
  | with_reducible refine r_or ?_
  | with_reducible refine r_not ?_
  | with_reducible refine r_chain ?_
  | with_reducible refine r_bm0 ?_
  | with_reducible refine r_bm ?_
  | with_reducible refine r_m1 ?_
  | with_reducible refine r_gname ?_
  | with_reducible refine r_gnil ?_
  | with_reducible refine r_gcons ?_
  | with_reducible refine r_gsub ?_
  | with_reducible refine r_sfld ?_
  | with_reducible refine r_faug ?_
  | with_reducible refine r_rAdd ?_
  | with_reducible refine r_rSub ?_
  | with_reducible refine r_ilist ?_
  | with_reducible refine r_itup ?_
  | with_reducible refine r_irng1 ?_
  | with_reducible refine r_lc ?_
  | with_reducible refine r_for ?_
  | with_reducible refine r_istr ?_
  | with_reducible refine r_isN ?_
  | with_reducible refine r_isnN ?_
  | with_reducible refine r_abs ?_
  | with_reducible refine r_int1 ?_
  | with_reducible refine r_leS ?_
  | with_reducible refine r_brk ?_
  | with_reducible refine r_strV ?_
  | ((with_reducible show rLenS _ _ _); refine r_lenS (by omega) ?_)
  | ((with_reducible show rAddS _ _ _ _); refine r_addS (by first | omega | (simp only [List.length_append, List.length_cons, List.length_nil]; omega)) ?_)
  | with_reducible refine r_inSg ?_
  | with_reducible refine r_notInSg ?_
  | with_reducible refine r_strE ?_
  | with_reducible refine r_szle (by first | decide | (simp only [List.length_cons, List.length_nil]; omega)) ?_
  | with_reducible refine r_revS ?_
  | ((with_reducible show rIxL _ (.ref _) (.int _) _ _); apply r_ixL; (· walk_at "sq"); (· exact rfl))
  | ((with_reducible show rIxT _ (.ref _) (.int _) _ _); apply r_ixT; (· walk_at "sq"); (· exact rfl))
  | ((with_reducible show rLenSq _ [.ref _] _ _); first | (apply r_lenL; (· walk_at "sq")) | (apply r_lenT; (· walk_at "sq")))
  | ((with_reducible show rI _ _ (.int _) (.int _) _ _); refine r_I (by walk_at "ar") ?_)
  | with_reducible refine r_ct ?_)
local macro_rules | `(tactic| walk_at "sq") => `(tactic| first
  | assumption
  | exact SqL.of (by assumption)
  | exact SqT.of (by assumption)
  | exact SqL.of upd_same
  | exact SqT.of upd_same)
local macro_rules | `(tactic| walk_at "ar") => `(tactic| first
  | exact Or.inl ⟨by omega, by omega⟩
  | exact Or.inr ⟨by omega, by omega⟩
  | exact ⟨by omega, by omega⟩
  | exact ⟨by decide, by decide, by decide⟩
  | (show (0 : Int) < _; omega)
  | omega)
local macro_rules | `(tactic| walk_at "r") => `(tactic| repeat walk_at "s")

section
variable {P : Program} {w : World} {K : PySem.W.Frag} {mg : Str → Option Value} {base : Heap}
theorem bot_law_packed (S : C54 K mg) : Cal P w K mg base 1 "_law_packed" spBot :=
  cal_of S (st := s_law_packed) (by simp [fn, d_law_packed]) (by decide +kernel) sc_law_packed bd_law_packed (fun _ _ _ _ h => h.elim) fun f cdv A outer s H vs Q E tk px hr h => h.elim
theorem c_law_packed (S : C54 K mg) : ∀ n : Nat, Cal P w K mg base (n + 1) "_law_packed" (spPacked n)
  | 0 => ((bot_law_packed S).mono (by omega)).imp fun vs H Q E ⟨_, _, k, _, _, _, h, _⟩ => absurd h (Nat.not_lt_zero k)
  | n + 1 => by
    have c_law_packed := c_law_packed S n
    refine cal_of S (st := s_law_packed) (by simp [fn, d_law_packed]) (by decide +kernel) sc_law_packed bd_law_packed (fun vs H Q E ⟨v, g, k, h, _⟩ => by rw [h] <;> rfl) fun f cdv A outer s H vs Q E tk px hr h => ?_
    obtain ⟨v, d, k, rfl, hd, hth, hk, hz, hQ⟩ := h
    have hg := hd.gr
    refine ⟨_, (pss_cons (ps_if (pt_cmpR op_isNn (pv 0) pe_non (nomark _)) (pss_one (ps_ret (pe_sl [46]))) pss_nil)
      (pss_cons (ps_if (pt_val (pe_callB call_isi (by rfl) (S.free "isinstance") (by decide +kernel) (pa_cons (pv 0) (pa_cons (pe_ty "tuple" rfl (S.free "tuple") (by decide +kernel)) pa_nil)))) (pss_one (ps_ret (pe_op op_addS (pe_op op_addS (pe_sl [40]) (pe_joinS (pe_sl [44]) (pe_lc (own := [("_law_one", 1)]) (by rfl) sc_law_packed.nd (pi_tup (pv 0)) (blkOk_by (own := [("_law_one", 1)]) (N := N_law_packed) (sc := defScope s_law_packed) (by decide +kernel)) (fun _ _ _ _ _ => (pg_name (i := 1) sc_law_packed.nd rfl (by first | exact Or.inl rfl | exact Or.inr rfl))) (fun _ _ _ _ _ => pts_nil) (fun _ _ _ _ _ => (pe_c c_law_packed hr (by first | decide | omega) (pa_cons (pv 1) pa_nil)))))) (pe_sl [41])))) pss_nil)
      (pss_cons (ps_if (pt_val (pe_callB call_isi (by rfl) (S.free "isinstance") (by decide +kernel) (pa_cons (pv 0) (pa_cons (pe_ty "str" rfl (S.free "str") (by decide +kernel)) pa_nil)))) (pss_one (ps_ret (pe_op op_addS (pe_op op_addS (pe_sl [39]) (pe_joinS (pe_sl []) (pe_lc (own := [("_law_sign", 2)]) (by rfl) sc_law_packed.nd (pi_str (pv 0)) (blkOk_by (own := [("_law_sign", 2)]) (N := N_law_packed) (sc := defScope s_law_packed) (by decide +kernel)) (fun _ _ _ _ _ => (pg_name (i := 2) sc_law_packed.nd rfl (by first | exact Or.inl rfl | exact Or.inr rfl))) (fun _ _ _ _ _ => pts_nil) (fun _ _ _ _ _ => (pe_ifExp (pt_cmpR op_inSg (pv 2) (pe_sl [39, 126]) rfl) (pe_op op_addS (pe_sl [126]) (pv 2)) (pv 2)))))) (pe_sl [39])))) pss_nil)
      (pss_one (ps_ret (pe_callTy call_strI (by rfl) (S.free "str") (by decide +kernel) (pa_cons (pv 0) pa_nil))))))), ?_⟩
    simp only [cxK]
    walk_at "r"
    refine ite2 (fun h => ?_) (fun h => ?_)
    · have h : v = .non := of_decide_eq_true h
      subst h
      cases hd
      walk_at "r"
      exact hQ H fun _ _ h => h
    · have hnn : v ≠ .non := fun z => h (decide_eq_true z)
      walk_at "r"
      refine isi .tup (GR.isK hg) ?_
      walk_at "r"
      refine ite2 (fun h2 => ?_) (fun h2 => ?_)
      · cases hd with
        | @tup a xs ds ha hds =>
          obtain ⟨m, rfl⟩ : ∃ m, k = m + 1 := by
            cases k with
            | zero => simp [Tx.isTh] at hth
            | succ m => exact ⟨m, rfl⟩
          have hth : Tx.isThs ds m = true := hth
          have hlen := hds.len
          have hz2 := hz
          simp only [Tx.pk, List.length_cons, List.length_append, List.length_nil] at hz2
          have hsum := joinL_len (Tx.pks ds)
          have hpl : (Tx.pks ds).length = ds.length := by rw [pks_eq, List.length_map]
          have hlenb : ds.length ≤ 100000 := by split at hsum <;> omega
          walk_at "r"
          refine ⟨_, rfl, ⟨xs, SqT.of ha⟩, ?_⟩
          intro D hD
          refine lc1 (P := fun i acc H1 => acc = (ds.take i).map (fun d => V.str (SX.S (Tx.pk d))) ∧ Ex H H1) walk_tup (fun x => rfl) ⟨rfl, Evl.Ex.new hD⟩ (fun i acc H1 ⟨_, e⟩ => SqT.of (e _ _ ha)) ?_ ?_
          · rintro i x acc H1 H2 hi hac hD1 ⟨e1, x1⟩ ⟨rfl, hx⟩
            obtain ⟨d, hdi, hdr⟩ := hds.get hx
            have hdm := List.mem_of_getElem? hdi
            walk_at "r"
            have hpz := pk_mem hdm
            refine ⟨x, d, m, by simp, hdr.kt (Ex.kt x1), ?_, by omega, by omega, fun H3 x3 => ?_⟩
            · rw [isThs_all] at hth
              exact List.all_eq_true.mp hth d hdm
            · refine lcn hac (by omega) (x3 _ _ hD1) ⟨?_, Evl.Ex.mut (Evl.Ex.trans x1 x3) hD⟩
              rw [take_map _ hdi, e1]
          · rintro acc H1 hac hD1 ⟨e1, x1⟩
            have e2 : SqL K H1 D ((Tx.pks ds).map fun l => V.str (SX.S l)) := SqL.of (by rw [hD1, e1, hlen, List.take_length, pks_eq, List.map_map]; rfl)
            have hj := joinL_sum (Tx.pks ds)
            refine r_join e2 (by simp only [List.length_cons, List.length_nil]; omega) ?_
            refine r_addS (by simp only [List.length_cons, List.length_nil]; omega) ?_
            walk_at "r"
            have e3 : ([40] ++ TL.joinL [44] (Tx.pks ds)) ++ [41] = Tx.pk (.tuple ds) := by simp [Tx.pk]
            rw [e3]
            exact hQ _ x1
        | _ => cases h2
      · walk_at "r"
        refine isi .str (GR.isK hg) ?_
        walk_at "r"
        refine ite2 (fun h1 => ?_) (fun h1 => ?_)
        · cases hd with
          | str l =>
            walk_at "r"
            intro D hD
            have hz2 : (39 :: (Tx.escC l ++ [39])).length ≤ 100000 := hz
            simp only [List.length_cons, List.length_append, List.length_nil] at hz2
            have hll : l.length ≤ 100000 := by
              have := gSz_pk (TD.str (H := H) l)
              have e : gSz (d2g (.str (SX.S l))) = l.length := rfl
              omega
            refine lc1 (P := fun i acc H1 => acc = (l.take i).map (fun c => V.str (SX.S (Tx.esc1 c))) ∧ Ex H H1) walk_S (fun x => rfl) ⟨rfl, Evl.Ex.new hD⟩ (fun _ _ _ _ => trivial) ?_ ?_
            · rintro i x acc H1 H2 hi ha hD1 ⟨e1, x1⟩ ⟨rfl, c, hc, rfl⟩
              walk_at "r"
              have x3 : Ex H2 H2 := fun _ _ h => h
              rw [show decide (c ∈ [39, 126]) = decide (c = 39 ∨ c = 126) by simp]
              walk_at "r"
              have fin : ∀ y, y = V.str (SX.S (Tx.esc1 c)) → LcN D (fun i acc H1 => acc = (l.take i).map (fun c => V.str (SX.S (Tx.esc1 c))) ∧ Ex H H1) i y H2 := fun y e => by
                refine lcn ha (by omega) (x3 _ _ hD1) ⟨?_, Evl.Ex.mut (Evl.Ex.trans x1 x3) hD⟩
                rw [take_map _ hc, e1, e]
              refine ite2 (fun h3 => ?_) (fun h3 => ?_)
              · walk_at "r"
                refine fin _ ?_
                unfold Tx.esc1
                rw [if_pos (of_decide_eq_true h3)]
                rfl
              · walk_at "r"
                refine fin _ ?_
                unfold Tx.esc1
                rw [if_neg (fun z => h3 (decide_eq_true z))]
            · rintro acc H1 ha hD1 ⟨e1, x1⟩
              have e2 : SqL K H1 D ((l.map Tx.esc1).map fun l => V.str (SX.S l)) := SqL.of (by rw [hD1, e1, List.take_length, List.map_map]; rfl)
              refine r_join e2 (by rw [esc_sum, List.length_map]; simp only [List.length_nil]; omega) ?_
              rw [escC_eq]
              refine r_addS (by simp only [List.length_cons, List.length_nil]; omega) ?_
              walk_at "r"
              have e3 : ([39] ++ Tx.escC l) ++ [39] = Tx.pk (.str (SX.S l)) := by simp [Tx.pk]
              rw [e3]
              exact hQ _ x1
          | _ => cases h1
        · walk_at "r"
          cases hd with
          | int i =>
            have hth : decide (-999999999999999999999999999999 ≤ i ∧ i ≤ 999999999999999999999999999999) = true := by
              have := hth
              unfold Tx.isTh at this
              exact this
            have hth := of_decide_eq_true hth
            exact ⟨i, rfl, by omega, by have := hQ H (fun _ _ h => h); unfold Tx.pk at this; exact this⟩
          | non => exact absurd rfl hnn
          | str _ => exact absurd rfl h1
          | tup _ _ => exact absurd rfl h2
end
end K54
--@law law_k54_whole_things_as_texts h54.json
set_option Elab.async false
set_option linter.all false
set_option maxRecDepth 100000
set_option maxHeartbeats 4000000
namespace K54
open PySem PySem.Spec PyProof.Rows L2 KB
open SX (S)
local macro_rules | `(tactic| walk_at "s") => `(tactic| first
  | with_reducible refine r_seq ?_
  | with_reducible refine r_set ?_
  | ((with_reducible show tVar _ _ _ _); refine r_var rfl ?_)
  | with_reducible refine r_c ?_
  | with_reducible refine r_op ?_
  | with_reducible refine r_cb ?_
  | with_reducible refine r_cons ?_
  | with_reducible refine r_nil ?_
  | with_reducible refine r_test ?_
  | with_reducible refine r_if ?_
  | with_reducible refine r_I0 ?_
  | with_reducible refine r_eqS1 ?_
  | with_reducible refine r_neS1 ?_
  | with_reducible refine r_eqSL ?_
  | with_reducible refine r_neSL ?_
  | with_reducible refine r_eqI ?_
  | ((with_reducible show rEq _ _ _ _); refine r_eq ?_)
  | ((with_reducible show rNe _ _ _ _); refine r_ne ?_)
  | with_reducible refine r_bl ?_
  | with_reducible refine r_blV ?_
  | with_reducible refine r_intV ?_
  | with_reducible refine r_ret ?_
  | with_reducible refine r_next ?_
  | with_reducible refine r_callS ?_
  | with_reducible refine r_call ?_
  | with_reducible refine r_asg ?_
  | with_reducible refine r_drop ?_
  | with_reducible refine r_retN ?_
  | with_reducible refine r_un ?_
  | with_reducible refine r_U ?_
  | with_reducible refine r_tup ?_
  | with_reducible refine r_lst ?_
  | with_reducible refine r_andV ?_
  | with_reducible refine r_orV ?_
  | with_reducible refine r_notV ?_
  | with_reducible refine r_ifE ?_
  | with_reducible refine r_meth ?_
  | with_reducible refine r_make ?_
  | with_reducible refine r_fld ?_
  | with_reducible refine r_sl ?_
  | with_reducible refine r_nop ?_
  | with_reducible refine r_part ?_
  | with_reducible refine r_B ?_
  | with_reducible refine r_and ?_
  | with_reducible refine r_or ?_
  | with_reducible refine r_not ?_
  | with_reducible refine r_chain ?_
  | with_reducible refine r_bm0 ?_
  | with_reducible refine r_bm ?_
  | with_reducible refine r_m1 ?_
  | with_reducible refine r_gname ?_
  | with_reducible refine r_gnil ?_
  | with_reducible refine r_gcons ?_
  | with_reducible refine r_gsub ?_
  | with_reducible refine r_sfld ?_
  | with_reducible refine r_faug ?_
  | with_reducible refine r_rAdd ?_
  | with_reducible refine r_rSub ?_
  | with_reducible refine r_ilist ?_
  | with_reducible refine r_itup ?_
  | with_reducible refine r_irng1 ?_
  | with_reducible refine r_lc ?_
  | with_reducible refine r_for ?_
  | with_reducible refine r_istr ?_
  | with_reducible refine r_isN ?_
  | with_reducible refine r_isnN ?_
  | with_reducible refine r_abs ?_
  | with_reducible refine r_int1 ?_
  | with_reducible refine r_leS ?_
  | with_reducible refine r_brk ?_
  | with_reducible refine r_strV ?_
  | with_reducible refine iteT ?_
  | with_reducible refine iteF ?_
  | with_reducible refine itT ?_
  | with_reducible refine itF ?_
  | ((with_reducible show rLenS _ _ _); refine r_lenS (by omega) ?_)
  | ((with_reducible show rAddS _ _ _ _); refine r_addS (by first | omega | (simp only [List.length_append, List.length_cons, List.length_nil]; omega)) ?_)
  | with_reducible refine r_inSg ?_
  | with_reducible refine r_notInSg ?_
  | with_reducible refine r_strE ?_
  | with_reducible refine r_szle (by first | decide | (simp only [List.length_cons, List.length_nil]; omega)) ?_
  | with_reducible refine r_revS ?_
  | ((with_reducible show rIxL _ (.ref _) (.int _) _ _); apply r_ixL; (· walk_at "sq"); (· exact rfl))
  | ((with_reducible show rIxT _ (.ref _) (.int _) _ _); apply r_ixT; (· walk_at "sq"); (· exact rfl))
  | ((with_reducible show rLenSq _ [.ref _] _ _); first | (apply r_lenL; (· walk_at "sq")) | (apply r_lenT; (· walk_at "sq")))
  | ((with_reducible show rI _ _ (.int _) (.int _) _ _); refine r_I (by walk_at "ar") ?_)
  | with_reducible refine r_ct ?_)
local macro_rules | `(tactic| walk_at "sq") => `(tactic| first
  | assumption
  | exact SqL.of (by assumption)
  | exact SqT.of (by assumption)
  | exact SqL.of upd_same
  | exact SqT.of upd_same)
local macro_rules | `(tactic| walk_at "ar") => `(tactic| first
  | exact Or.inl ⟨by omega, by omega⟩
  | exact Or.inr ⟨by omega, by omega⟩
  | exact ⟨by omega, by omega⟩
  | exact ⟨by decide, by decide, by decide⟩
  | (show (0 : Int) < _; omega)
  | omega)
local macro_rules | `(tactic| walk_at "r") => `(tactic| repeat walk_at "s")

section
variable {P : Program} {w : World} {K : PySem.W.Frag} {mg : Str → Option Value} {base : Heap}
def Out3 (H : Hp) (p : Addr) : Tx.Res → Prop
  | .ok d _ q => ∃ v, H p = some (.tup [v, .int (q : Nat), .bl false]) ∧ TD H v d
  | .bad q => H p = some (.tup [.non, .int (q : Nat), .bl true])
def spRS : Sp := fun vs H Q _ => ∃ (l : List Nat) (p : Nat), vs = [.str (SX.S l), .int (p : Nat)] ∧ p ≤ l.length ∧ l.length ≤ 100000 ∧ ∀ q H', Ex H H' → Out3 H' q (Tx.rdS (l.drop p) p []) → Q (.ref q) H'
theorem c_law_read_string (S : C54 K mg) : Cal P w K mg base 1 "_law_read_string" spRS := by
  refine cal_of S (st := s_law_read_string) (by simp [fn, d_law_read_string]) (by decide +kernel) sc_law_read_string bd_law_read_string (fun vs H Q E ⟨l, p, h, _⟩ => by rw [h] <;> rfl) fun f cdv A outer s H vs Q E tk px hr h => ?_
  obtain ⟨l, p, rfl, hp, hl, hQ⟩ := h
  refine ⟨_, (pss_cons (ps_set (i := 2) sc_law_read_string.nd rfl (by first | exact Or.inl rfl | exact Or.inr rfl) (pe_sl []))
      (pss_cons (ps_while (passes_of rfl) (pt_cmpR op_lt (pv 1) (pe_callB call_lenS (by rfl) (S.free "len") PySem.boot_len (pa_cons (pv 0) pa_nil)) (nomark _)) (pss_cons (ps_set (i := 3) sc_law_read_string.nd rfl (by first | exact Or.inl rfl | exact Or.inr rfl) (pe_ix ix_str (pv 0) (pv 1) (fun _ _ => rfl)))
        (pss_cons (ps_if (pt_cmpR op_eq (pv 3) (pe_sl [39]) (nomark _)) (pss_one (ps_ret (pe_tup (pa_cons (pv 2) (pa_cons (pe_op op_add (pv 1) pe_int) (pa_cons pe_bl pa_nil)))))) pss_nil)
        (pss_cons (ps_if (pt_not (pt_chain op_leS op_leS (pe_sl [32]) (pv 3) (pe_sl [126]))) (pss_one (ps_ret (pe_tup (pa_cons pe_non (pa_cons (pv 1) (pa_cons pe_bl pa_nil)))))) pss_nil)
        (pss_cons (ps_if (pt_cmpR op_eq (pv 3) (pe_sl [126]) (nomark _)) (pss_cons (ps_set (i := 1) sc_law_read_string.nd rfl (by first | exact Or.inl rfl | exact Or.inr rfl) (pe_op op_add (pv 1) pe_int))
          (pss_cons (ps_if ((pw_or (pt_cmpR op_eq (pv 1) (pe_callB call_lenS (by rfl) (S.free "len") PySem.boot_len (pa_cons (pv 0) pa_nil)) (nomark _)) (pw_or1 (pt_cmpR op_notInSg (pe_ix ix_str (pv 0) (pv 1) (fun _ _ => rfl)) (pe_sl [39, 126]) rfl)))).pt (pss_one (ps_ret (pe_tup (pa_cons pe_non (pa_cons (pv 1) (pa_cons pe_bl pa_nil)))))) pss_nil)
          (pss_one (ps_set (i := 3) sc_law_read_string.nd rfl (by first | exact Or.inl rfl | exact Or.inr rfl) (pe_ix ix_str (pv 0) (pv 1) (fun _ _ => rfl)))))) pss_nil)
        (pss_cons (ps_set (i := 2) sc_law_read_string.nd rfl (by first | exact Or.inl rfl | exact Or.inr rfl) (pe_op op_addS (pv 2) (pv 3)))
        (pss_one (ps_set (i := 1) sc_law_read_string.nd rfl (by first | exact Or.inl rfl | exact Or.inr rfl) (pe_op op_add (pv 1) pe_int)))))))))
      (pss_one (ps_ret (pe_tup (pa_cons pe_non (pa_cons (pv 1) (pa_cons pe_bl pa_nil)))))))), ?_⟩
  try simp only [cxK]
  generalize hR0 : Tx.rdS (l.drop p) p [] = R at hQ
  walk_at "r"
  refine ⟨fun m σ H' => H' = H ∧ ∃ (p' : Nat) (acc : List Nat) (u : Option V), σ = [some (.str (SX.S l)), some (.int (p' : Nat)), some (.str (SX.S acc)), u] ∧ m = l.length - p' ∧ p' ≤ l.length ∧ acc.length ≤ p' ∧ Tx.rdS (l.drop p') p' acc = R, ⟨_, rfl, p, [], none, rfl, rfl, hp, by simp, hR0⟩, ?_⟩
  rintro m σ H1 ⟨rfl, p', acc, u, rfl, rfl, hp', hac, hR⟩
  walk_at "r"
  refine itd (fun h1 => ?_) (fun h1 => ?_)
  · have h1 : p' < l.length := by omega
    obtain ⟨c, hc1, hc2, hc3⟩ := drop_at h1
    refine ⟨fun σ H' => H' = H1 ∧ ∃ (p2 : Nat) (acc : List Nat) (u : Option V), σ = [some (.str (SX.S l)), some (.int (p2 : Nat)), some (.str (SX.S acc)), u] ∧ p' < p2 ∧ p2 ≤ l.length ∧ acc.length ≤ p2 ∧ Tx.rdS (l.drop p2) p2 acc = R, ?_, ?_⟩
    · rintro σ' H' ⟨e1, p2, acc, u, e2, h2, h3, h4, h5⟩
      exact ⟨l.length - p2, by omega, e1, p2, acc, u, e2, rfl, h3, h4, h5⟩
    · walk_at "r"
      refine r_ixS (by omega) hc2 ?_
      walk_at "r"
      have hR1 : Tx.rdS (c :: l.drop (p' + 1)) p' acc = R := hc3 ▸ hR
      unfold Tx.rdS at hR1
      refine itd (fun h2 => ?_) (fun h2 => ?_)
      · rw [if_pos h2] at hR1
        walk_at "r"
        intro q hq
        refine hQ q _ (Evl.Ex.new hq) ?_
        rw [← hR1]
        exact ⟨_, upd_same, .str acc⟩
      · rw [if_neg h2] at hR1
        walk_at "r"
        have bad : Tx.isSg c = false → ∀ q, H1 q = none → Q (.ref q) (L2.upd H1 q (.tup [.non, .int (p' : Nat), .bl true])) := fun hs q hq => by
          rw [if_pos hs] at hR1
          refine hQ q _ (Evl.Ex.new hq) ?_
          rw [← hR1]
          exact upd_same
        refine itn (fun h3 => ?_) (fun h3 => ?_)
        · rw [lex1] at h3
          walk_at "r"
          refine itnn (fun h4 => ?_) (fun h4 => ?_)
          · rw [lex1] at h4
            walk_at "r"
            exact bad (sg_false (.inr h4))
          · rw [lex1] at h4
            rw [if_neg (by rw [sg_true h3 h4]; decide)] at hR1
            walk_at "r"
            refine itd (fun h5 => ?_) (fun h5 => ?_)
            · rw [if_pos h5] at hR1
              walk_at "r"
              refine itd (fun h6 => ?_) (fun h6 => ?_)
              · rw [drop_end (by omega)] at hR1
                walk_at "r"
                intro q hq
                refine hQ q _ (Evl.Ex.new hq) ?_
                rw [← hR1]
                exact upd_same
              · have h7 : p' + 1 < l.length := by omega
                obtain ⟨c2, hd1, hd2, hd3⟩ := drop_at h7
                rw [hd3] at hR1
                dsimp only at hR1
                walk_at "r"
                refine r_ixS (by omega) hd2 ?_
                walk_at "r"
                refine itn (fun h8 => ?_) (fun h8 => ?_)
                · rw [if_neg (by simpa using h8)] at hR1
                  walk_at "r"
                  intro q hq
                  refine hQ q _ (Evl.Ex.new hq) ?_
                  rw [← hR1]
                  exact upd_same
                · rw [if_pos (by simpa using h8)] at hR1
                  walk_at "r"
                  refine r_ixS (by omega) hd2 ?_
                  walk_at "r"
                  exact ⟨rfl, p' + 2, acc ++ [c2], _, rfl, by omega, by omega, by simp; omega, hR1⟩
            · rw [if_neg h5] at hR1
              walk_at "r"
              exact ⟨rfl, p' + 1, acc ++ [c], _, rfl, by omega, by omega, by simp; omega, hR1⟩
        · rw [lex1] at h3
          walk_at "r"
          exact bad (sg_false (.inl h3))
  · walk_at "r"
    intro q hq
    refine hQ q _ (Evl.Ex.new hq) ?_
    rw [← hR, drop_end (by omega)]
    exact upd_same
end
end K54
--@law law_k54_whole_things_as_texts h54.json
set_option Elab.async false
set_option linter.all false
set_option maxRecDepth 100000
set_option maxHeartbeats 4000000
namespace K54
open PySem PySem.Spec PyProof.Rows L2 KB
open SX (S)
local macro_rules | `(tactic| walk_at "s") => `(tactic| first
  | with_reducible refine r_seq ?_
  | with_reducible refine r_set ?_
  | ((with_reducible show tVar _ _ _ _); refine r_var rfl ?_)
  | with_reducible refine r_c ?_
  | with_reducible refine r_op ?_
  | with_reducible refine r_cb ?_
  | with_reducible refine r_cons ?_
  | with_reducible refine r_nil ?_
  | with_reducible refine r_test ?_
  | with_reducible refine r_if ?_
  | with_reducible refine r_I0 ?_
  | with_reducible refine r_eqS1 ?_
  | with_reducible refine r_neS1 ?_
  | with_reducible refine r_eqSL ?_
  | with_reducible refine r_neSL ?_
  | with_reducible refine r_eqI ?_
  | ((with_reducible show rEq _ _ _ _); refine r_eq ?_)
  | ((with_reducible show rNe _ _ _ _); refine r_ne ?_)
  | with_reducible refine r_bl ?_
  | with_reducible refine r_blV ?_
  | with_reducible refine r_intV ?_
  | with_reducible refine r_ret ?_
  | with_reducible refine r_next ?_
  | with_reducible refine r_callS ?_
  | with_reducible refine r_call ?_
  | with_reducible refine r_asg ?_
  | with_reducible refine r_drop ?_
  | with_reducible refine r_retN ?_
  | with_reducible refine r_un ?_
  | with_reducible refine r_U ?_
  | with_reducible refine r_tup ?_
  | with_reducible refine r_lst ?_
  | with_reducible refine r_andV ?_
  | with_reducible refine r_orV ?_
  | with_reducible refine r_notV ?_
  | with_reducible refine r_ifE ?_
  | with_reducible refine r_meth ?_
  | with_reducible refine r_make ?_
  | with_reducible refine r_fld ?_
  | with_reducible refine r_sl ?_
  | with_reducible refine r_nop ?_
  | with_reducible refine r_part ?_
  | with_reducible refine r_B ?_
  | with_reducible refine r_and ?_
  | with_reducible refine r_or ?_
  | with_reducible refine r_not ?_
  | with_reducible refine r_chain ?_
  | with_reducible refine r_bm0 ?_
  | with_reducible refine r_bm ?_
  | with_reducible refine r_m1 ?_
  | with_reducible refine r_gname ?_
  | with_reducible refine r_gnil ?_
  | with_reducible refine r_gcons ?_
  | with_reducible refine r_gsub ?_
  | with_reducible refine r_sfld ?_
  | with_reducible refine r_faug ?_
  | with_reducible refine r_rAdd ?_
  | with_reducible refine r_rSub ?_
  | with_reducible refine r_ilist ?_
  | with_reducible refine r_itup ?_
  | with_reducible refine r_irng1 ?_
  | with_reducible refine r_lc ?_
  | with_reducible refine r_for ?_
  | with_reducible refine r_istr ?_
  | with_reducible refine r_isN ?_
  | with_reducible refine r_isnN ?_
  | with_reducible refine r_abs ?_
  | with_reducible refine r_int1 ?_
  | with_reducible refine r_leS ?_
  | with_reducible refine r_brk ?_
  | with_reducible refine r_strV ?_
  | with_reducible refine iteT ?_
  | with_reducible refine iteF ?_
  | with_reducible refine itT ?_
  | with_reducible refine itF ?_
  | ((with_reducible show rLenS _ _ _); refine r_lenS (by omega) ?_)
  | ((with_reducible show rAddS _ _ _ _); refine r_addS (by first | omega | (simp only [List.length_append, List.length_cons, List.length_nil]; omega)) ?_)
  | with_reducible refine r_inSg ?_
  | with_reducible refine r_notInSg ?_
  | with_reducible refine r_strE ?_
  | with_reducible refine r_szle (by first | decide | (simp only [List.length_cons, List.length_nil]; omega)) ?_
  | with_reducible refine r_revS ?_
  | ((with_reducible show rIxL _ (.ref _) (.int _) _ _); apply r_ixL; (· walk_at "sq"); (· exact rfl))
  | ((with_reducible show rIxT _ (.ref _) (.int _) _ _); apply r_ixT; (· walk_at "sq"); (· exact rfl))
  | ((with_reducible show rLenSq _ [.ref _] _ _); first | (apply r_lenL; (· walk_at "sq")) | (apply r_lenT; (· walk_at "sq")))
  | ((with_reducible show rI _ _ (.int _) (.int _) _ _); refine r_I (by walk_at "ar") ?_)
  | with_reducible refine r_ct ?_)
local macro_rules | `(tactic| walk_at "sq") => `(tactic| first
  | assumption
  | exact SqL.of (by assumption)
  | exact SqT.of (by assumption)
  | exact SqL.of upd_same
  | exact SqT.of upd_same)
local macro_rules | `(tactic| walk_at "ar") => `(tactic| first
  | exact Or.inl ⟨by omega, by omega⟩
  | exact Or.inr ⟨by omega, by omega⟩
  | exact ⟨by omega, by omega⟩
  | exact ⟨by decide, by decide, by decide⟩
  | (show (0 : Int) < _; omega)
  | omega)
local macro_rules | `(tactic| walk_at "r") => `(tactic| repeat walk_at "s")

section
variable {P : Program} {w : World} {K : PySem.W.Frag} {mg : Str → Option Value} {base : Heap}
def spRI : Sp := fun vs H Q _ => ∃ (l : List Nat) (p : Nat), vs = [.str (SX.S l), .int (p : Nat)] ∧ p < l.length ∧ l.length ≤ 100000 ∧ ∀ q H', Ex H H' → Out3 H' q (Tx.rdI (l.drop p) p) → Q (.ref q) H'
theorem c_law_read_integer (S : C54 K mg) : Cal P w K mg base 1 "_law_read_integer" spRI := by
  refine cal_of S (st := s_law_read_integer) (by simp [fn, d_law_read_integer]) (by decide +kernel) sc_law_read_integer bd_law_read_integer (fun vs H Q E ⟨l, p, h, _⟩ => by rw [h] <;> rfl) fun f cdv A outer s H vs Q E tk px hr h => ?_
  obtain ⟨l, p, rfl, hp, hl, hQ⟩ := h
  refine ⟨_, (pss_cons (ps_set (i := 2) sc_law_read_integer.nd rfl (by first | exact Or.inl rfl | exact Or.inr rfl) (pv 1))
      (Evl.pss_cut (ps_if (pt_cmpR op_eq (pe_ix ix_str (pv 0) (pv 1) (fun _ _ => rfl)) (pe_sl [45]) (nomark _)) (pss_one (ps_set (i := 1) sc_law_read_integer.nd rfl (by first | exact Or.inl rfl | exact Or.inr rfl) (pe_op op_add (pv 1) pe_int))) pss_nil)
      (pss_cons (ps_set (i := 3) sc_law_read_integer.nd rfl (by first | exact Or.inl rfl | exact Or.inr rfl) (pv 1))
      (pss_cons (ps_while (passes_of rfl) ((pw_and (pt_cmpR op_lt (pv 1) (pe_callB call_lenS (by rfl) (S.free "len") PySem.boot_len (pa_cons (pv 0) pa_nil)) (nomark _)) (pw_and (pt_cmpR op_inSg (pe_ix ix_str (pv 0) (pv 1) (fun _ _ => rfl)) (pe_sl [48, 49, 50, 51, 52, 53, 54, 55, 56, 57]) rfl) (pw_and1 (pt_cmpR op_lt (pe_op op_sub (pv 1) (pv 3)) pe_int (nomark _)))))).pt (pss_cons (ps_if ((pw_and (pt_cmpR op_eq (pv 1) (pe_op op_add (pv 3) pe_int) (nomark _)) (pw_and1 (pt_cmpR op_eq (pe_ix ix_str (pv 0) (pv 3) (fun _ _ => rfl)) (pe_sl [48]) (nomark _))))).pt (pss_one (ps_ret (pe_tup (pa_cons (pe_callTy call_intS (by rfl) (S.free "int") (by decide +kernel) (pa_cons (pe_slice sl_str (pv 0) (po_some (pv 2)) (po_some (pv 1))) pa_nil)) (pa_cons (pv 1) (pa_cons pe_bl pa_nil)))))) pss_nil)
        (pss_cons (ps_if ((pw_and (pt_cmpR op_eq (pv 1) (pv 3) (nomark _)) (pw_and (pt_cmpR op_eq (pe_ix ix_str (pv 0) (pv 1) (fun _ _ => rfl)) (pe_sl [48]) (nomark _)) (pw_and1 (pt_cmpR op_lt (pv 2) (pv 3) (nomark _)))))).pt (pss_one (ps_ret (pe_tup (pa_cons pe_non (pa_cons (pv 1) (pa_cons pe_bl pa_nil)))))) pss_nil)
        (pss_one (ps_set (i := 1) sc_law_read_integer.nd rfl (by first | exact Or.inl rfl | exact Or.inr rfl) (pe_op op_add (pv 1) pe_int))))))
      (pss_cons (ps_if (pt_cmpR op_eq (pv 1) (pv 3) (nomark _)) (pss_one (ps_ret (pe_tup (pa_cons pe_non (pa_cons (pv 1) (pa_cons pe_bl pa_nil)))))) pss_nil)
      (pss_one (ps_ret (pe_tup (pa_cons (pe_callTy call_intS (by rfl) (S.free "int") (by decide +kernel) (pa_cons (pe_slice sl_str (pv 0) (po_some (pv 2)) (po_some (pv 1))) pa_nil)) (pa_cons (pv 1) (pa_cons pe_bl pa_nil))))))))))), ?_⟩
  try simp only [cxK]
  generalize hR0 : Tx.rdI (l.drop p) p = R at hQ
  obtain ⟨c, hc1, hc2, hc3⟩ := drop_at hp
  rw [hc3] at hR0
  walk_at "r"
  refine ⟨fun σ H' => H' = H ∧ ∃ (neg : Bool) (f : Nat), σ = [some (.str (SX.S l)), some (.int (f : Nat)), some (.int (p : Nat)), none] ∧ f = p + (if neg = true then 1 else 0) ∧ f ≤ l.length ∧ l.drop p = (if neg = true then [45] else []) ++ l.drop f ∧ Tx.rdU neg (l.drop f) f = R, ?_, ?_⟩
  · walk_at "r"
    refine r_ixS (by omega) hc2 ?_
    walk_at "r"
    refine itd (fun h1 => ?_) (fun h1 => ?_)
    · subst h1
      walk_at "r"
      exact ⟨rfl, true, p + 1, rfl, rfl, by omega, hc3, hR0⟩
    · walk_at "r"
      refine ⟨rfl, false, p, rfl, rfl, by omega, rfl, ?_⟩
      rw [hc3, ← rdI_pos _ _ (fun r z => h1 (List.cons.inj z).1)]
      exact hR0
  · rintro σ H1 ⟨rfl, neg, f, rfl, hf, hfl, hcut, hR⟩
    have hdl := (Tx.digs_le 30 (l.drop f))
    rw [List.length_drop] at hdl
    have hdt := digs_take 30 (l.drop f)
    have hda := digs_at 30 (l.drop f)
    have hdg := Tx.digs_dg 30 (l.drop f)
    have hro := rdU_other neg (l.drop f) f
    generalize hds : Tx.digs 30 (l.drop f) = ds at hdl hdt hda hdg hro
    have hnl : (if neg = true then [45] else ([] : List Nat)).length ≤ 1 := by split <;> simp
    -- the number told
    have told : ∀ i : Nat, i ≤ ds.length → (l.drop p).take (f + i - p) = (if neg = true then [45] else []) ++ ds.take i := fun i hi => by
      have e1 : ds.take i = (l.drop f).take i := by
        rw [hdt, List.take_take, Nat.min_eq_left hi]
      rw [hcut, e1]
      cases neg with
      | false =>
        have hf' : f = p := by simpa using hf
        rw [show f + i - p = i by omega]
        rfl
      | true =>
        have hf' : f = p + 1 := by simpa using hf
        rw [show f + i - p = i + 1 by omega]
        rfl
    walk_at "r"
    refine ⟨fun m σ H' => H' = H1 ∧ ∃ (i : Nat), σ = [some (.str (SX.S l)), some (.int ((f + i : Nat) : Int)), some (.int (p : Nat)), some (.int (f : Nat))] ∧ m = 40 - i ∧ i ≤ ds.length ∧ ((∃ r, l.drop f = 48 :: r) → i ≤ 1 ∧ (i = 1 → neg = false)), ⟨_, rfl, 0, rfl, rfl, Nat.zero_le _, fun _ => ⟨by omega, fun z => by cases z⟩⟩, ?_⟩
    rintro m σ H2 ⟨rfl, i, rfl, rfl, hi, hz⟩
    have hai := hda i hi
    have hat : f + i < l.length → ∃ c, l[f + i]? = some c ∧ atI l ((f + i : Nat) : Int) = some c ∧ (l.drop f)[i]? = some c := fun h => by
      obtain ⟨c, h1, h2, _⟩ := drop_at h
      exact ⟨c, h1, h2, by rw [List.getElem?_drop]; exact h1⟩
    -- behind the loop
    have fin : ¬ i < ds.length → (i = 0 → Tx.Res.bad f = R) ∧ (0 < i → ∀ v, v = (if neg = true then -((NumText.digitsVal (ds.take i) : Nat) : Int) else ((NumText.digitsVal (ds.take i) : Nat) : Int)) → ∃ r, Tx.Res.ok (.int v) r (f + i) = R) := fun h => by
      have e : i = ds.length := by omega
      by_cases h48 : ∃ r, l.drop f = 48 :: r
      · obtain ⟨r, hr⟩ := h48
        have hds1 : 1 ≤ ds.length := by
          rw [← hds, hr]
          show 1 ≤ (if Tx.isDg 48 = true then 48 :: Tx.digs 29 r else []).length
          rw [if_pos (by decide)]
          simp
        obtain ⟨h1, h2⟩ := hz ⟨r, hr⟩
        have e1 : i = 1 := by omega
        have hneg := h2 e1
        subst hneg
        refine ⟨fun z => by omega, fun _ v hv => ⟨r, ?_⟩⟩
        rw [hr, rdU_zero] at hR
        have e3 : ds.take i = [48] := by
          rw [← hds, hr, e1]
          show (if Tx.isDg 48 = true then 48 :: Tx.digs 29 r else []).take 1 = _
          rw [if_pos (by decide)]
          rfl
        rw [e3] at hv
        rw [hv, e1]
        exact hR
      · have hro := hro fun r z => h48 ⟨r, z⟩
        rw [hR] at hro
        refine ⟨fun z => ?_, fun z v hv => ⟨Tx.afterD (l.drop f), ?_⟩⟩
        · have : ds = [] := List.length_eq_zero_iff.mp (by omega)
          rw [if_pos this] at hro
          exact hro.symm
        · have : ds ≠ [] := fun y => by rw [y] at e; simp at e; omega
          rw [if_neg this] at hro
          rw [hro, hv, e, List.take_length]
    have fin2 : ¬ i < ds.length → tSeq (tIfS (tTest (tOp rEq (tVar 1) (tVar 3))) (tRet (tTup (tCons (tC .non) (tCons (tVar 1) (tCons (tC (.bl true)) tNil))))) tNext)
        (tRet (tTup (tCons (tCB rIntS (tCons (tSl rSlS (tVar 0) (tPart (tVar 2)) (tPart (tVar 1))) tNil)) (tCons (tVar 1) (tCons (tC (.bl false)) tNil))))) { nx := fun x H' => Q .non H', rt := Q } [some (.str (SX.S l)), some (.int ((f + i : Nat) : Int)), some (.int (p : Nat)), some (.int (f : Nat))] H2 := fun h => by
      obtain ⟨f1, f2⟩ := fin h
      walk_at "r"
      refine itd (fun h1 => ?_) (fun h1 => ?_)
      · have e : i = 0 := by omega
        have hb := f1 e
        walk_at "r"
        intro q hq
        refine hQ q _ (Evl.Ex.new hq) ?_
        rw [← hb]
        show L2.upd H2 q _ q = _
        rw [upd_same, e]
        rfl
      · have e : 0 < i := by omega
        obtain ⟨r, hr⟩ := f2 e _ rfl
        walk_at "r"
        refine r_slPQ (p := p) (q := f + i) (by omega) rfl rfl (by omega) (by omega) ?_
        rw [told i hi]
        walk_at "r"
        refine r_intS (int_digs (fun c hc => hdg c (List.mem_of_mem_take hc)) (fun z => by have := congrArg List.length z; rw [List.length_take, List.length_nil] at this; omega) (by rw [List.length_take]; omega) neg) (by rw [List.length_append, List.length_take]; omega) ?_
        walk_at "r"
        intro q hq
        refine hQ q _ (Evl.Ex.new hq) ?_
        rw [← hr]
        exact ⟨_, upd_same, .int _⟩
    walk_at "r"
    refine itd (fun h1 => ?_) (fun h1 => ?_)
    · have h1 : f + i < l.length := by omega
      obtain ⟨c, hd1, hd2, hd3⟩ := hat h1
      walk_at "r"
      refine r_ixS (by omega) hd2 ?_
      walk_at "r"
      rw [dg_mem]
      refine ite2 (fun h2 => ?_) (fun h2 => ?_)
      · walk_at "r"
        refine itd (fun h3 => ?_) (fun h3 => ?_)
        · have hlt : i < ds.length := hai.mpr ⟨by omega, c, hd3, h2⟩
          refine ⟨fun σ H' => H' = H2 ∧ ∃ (j : Nat), σ = [some (.str (SX.S l)), some (.int ((f + j : Nat) : Int)), some (.int (p : Nat)), some (.int (f : Nat))] ∧ i < j ∧ j ≤ ds.length ∧ ((∃ r, l.drop f = 48 :: r) → j ≤ 1 ∧ (j = 1 → neg = false)), ?_, ?_⟩
          · rintro σ' H' ⟨e1, j, e2, e3, e4, e5⟩
            exact ⟨40 - j, by omega, e1, j, e2, rfl, e4, e5⟩
          · walk_at "r"
            obtain ⟨c0, g1, g2, g3⟩ := drop_at (show f < l.length by omega)
            have h48 : (∃ r, l.drop f = 48 :: r) ↔ c0 = 48 := ⟨fun ⟨r, z⟩ => by rw [g3] at z; exact (List.cons.inj z).1, fun z => ⟨_, by rw [g3, z]⟩⟩
            refine itd (fun h4 => ?_) (fun h4 => ?_)
            · have e1 : i = 1 := by omega
              subst e1
              walk_at "r"
              refine r_ixS (by omega) g2 ?_
              walk_at "r"
              refine itd (fun h5 => ?_) (fun h5 => ?_)
              · have hneg := (hz (h48.mpr h5)).2 rfl
                subst hneg
                have e3 : ds.take 1 = [48] := by
                  rw [hdt, List.take_take, g3, h5]
                  rw [show min 1 ds.length = 1 by omega]
                  rfl
                rw [g3, h5, rdU_zero] at hR
                walk_at "r"
                refine r_slPQ (p := p) (q := f + 1) (by omega) rfl rfl (by omega) (by omega) ?_
                rw [told 1 hi, e3]
                walk_at "r"
                refine r_intS (n := 0) (by decide +kernel) (by decide) ?_
                walk_at "r"
                intro q hq
                refine hQ q _ (Evl.Ex.new hq) ?_
                rw [← hR]
                exact ⟨_, upd_same, .int _⟩
              · walk_at "r"
                refine itd (fun h6 => absurd h6 (by omega)) (fun h6 => ?_)
                walk_at "r"
                exact ⟨rfl, 2, rfl, by omega, by omega, fun z => absurd (h48.mp z) h5⟩
            · have e1 : i ≠ 1 := by omega
              walk_at "r"
              refine itd (fun h6 => ?_) (fun h6 => ?_)
              · have e0 : i = 0 := by omega
                subst e0
                have ec : c = c0 := by
                  have z : l[f + 0]? = l[f]? := rfl
                  rw [z, g1] at hd1
                  exact (Option.some.inj hd1).symm
                subst ec
                walk_at "r"
                refine r_ixS (by omega) hd2 ?_
                walk_at "r"
                refine itd (fun h7 => ?_) (fun h7 => ?_)
                · walk_at "r"
                  refine itd (fun h8 => ?_) (fun h8 => ?_)
                  · have hneg : neg = true := by
                      cases neg with
                      | true => rfl
                      | false => simp at hf; omega
                    subst hneg
                    rw [g3, h7, rdU_zero] at hR
                    walk_at "r"
                    intro q hq
                    refine hQ q _ (Evl.Ex.new hq) ?_
                    rw [← hR]
                    exact upd_same
                  · have hneg : neg = false := by
                      cases neg with
                      | false => rfl
                      | true => simp at hf; omega
                    walk_at "r"
                    exact ⟨rfl, 1, rfl, by omega, by omega, fun _ => ⟨by omega, fun _ => hneg⟩⟩
                · walk_at "r"
                  exact ⟨rfl, 1, rfl, by omega, by omega, fun z => absurd (h48.mp z) h7⟩
              · walk_at "r"
                exact ⟨rfl, i + 1, rfl, by omega, by omega, fun z => by have := hz z; omega⟩
        · have hlt : ¬ i < ds.length := fun z => h3 (by have := (hai.mp z).1; omega)
          exact fin2 hlt
      · have hlt : ¬ i < ds.length := fun z => by
          obtain ⟨_, c', hc', hg'⟩ := hai.mp z
          rw [hd3] at hc'
          cases hc'
          exact h2 hg'
        exact fin2 hlt
    · have hlt : ¬ i < ds.length := fun z => by
        obtain ⟨_, c', hc', _⟩ := hai.mp z
        have := List.getElem?_eq_some_iff.mp hc'
        obtain ⟨h, _⟩ := this
        rw [List.length_drop] at h
        omega
      exact fin2 hlt
end
end K54
--@law law_k54_whole_things_as_texts h54.json
set_option Elab.async false
set_option linter.all false
set_option maxRecDepth 100000
set_option maxHeartbeats 4000000
namespace K54
open PySem PySem.Spec PyProof.Rows L2 KB
open SX (S)
local macro_rules | `(tactic| walk_at "s") => `(tactic| first
  | with_reducible refine r_seq ?_
  | with_reducible refine r_set ?_
  | ((with_reducible show tVar _ _ _ _); refine r_var rfl ?_)
  | with_reducible refine r_c ?_
  | with_reducible refine r_op ?_
  | with_reducible refine r_cb ?_
  | with_reducible refine r_cons ?_
  | with_reducible refine r_nil ?_
  | with_reducible refine r_test ?_
  | with_reducible refine r_if ?_
  | with_reducible refine r_I0 ?_
  | with_reducible refine r_eqS1 ?_
  | with_reducible refine r_neS1 ?_
  | with_reducible refine r_eqSL ?_
  | with_reducible refine r_neSL ?_
  | with_reducible refine r_eqI ?_
  | ((with_reducible show rEq _ _ _ _); refine r_eq ?_)
  | ((with_reducible show rNe _ _ _ _); refine r_ne ?_)
  | with_reducible refine r_bl ?_
  | with_reducible refine r_blV ?_
  | with_reducible refine r_intV ?_
  | with_reducible refine r_ret ?_
  | with_reducible refine r_next ?_
  | with_reducible refine r_callS ?_
  | with_reducible refine r_call ?_
  | with_reducible refine r_asg ?_
  | with_reducible refine r_drop ?_
  | with_reducible refine r_retN ?_
  | with_reducible refine r_un ?_
  | with_reducible refine r_U ?_
  | with_reducible refine r_tup ?_
  | with_reducible refine r_lst ?_
  | with_reducible refine r_andV ?_
  | with_reducible refine r_orV ?_
  | with_reducible refine r_notV ?_
  | with_reducible refine r_ifE ?_
  | with_reducible refine r_meth ?_
  | with_reducible refine r_make ?_
  | with_reducible refine r_fld ?_
  | with_reducible refine r_sl ?_
  | with_reducible refine r_nop ?_
  | with_reducible refine r_part ?_
  | with_reducible refine r_B ?_
  | with_reducible refine r_and ?_
  | with_reducible refine r_or ?_
  | with_reducible refine r_not ?_
  | with_reducible refine r_chain ?_
  | with_reducible refine r_bm0 ?_
  | with_reducible refine r_bm ?_
  | with_reducible refine r_m1 ?_
  | with_reducible refine r_gname ?_
  | with_reducible refine r_gnil ?_
  | with_reducible refine r_gcons ?_
  | with_reducible refine r_gsub ?_
  | with_reducible refine r_sfld ?_
  | with_reducible refine r_faug ?_
  | with_reducible refine r_rAdd ?_
  | with_reducible refine r_rSub ?_
  | with_reducible refine r_ilist ?_
  | with_reducible refine r_itup ?_
  | with_reducible refine r_irng1 ?_
  | with_reducible refine r_lc ?_
  | with_reducible refine r_for ?_
  | with_reducible refine r_istr ?_
  | with_reducible refine r_isN ?_
  | with_reducible refine r_isnN ?_
  | with_reducible refine r_abs ?_
  | with_reducible refine r_int1 ?_
  | with_reducible refine r_leS ?_
  | with_reducible refine r_brk ?_
  | with_reducible refine r_strV ?_
  | with_reducible refine iteT ?_
  | with_reducible refine iteF ?_
  | with_reducible refine itT ?_
  | with_reducible refine itF ?_
  | ((with_reducible show rLenS _ _ _); refine r_lenS (by omega) ?_)
  | ((with_reducible show rAddS _ _ _ _); refine r_addS (by first | omega | (simp only [List.length_append, List.length_cons, List.length_nil]; omega)) ?_)
  | with_reducible refine r_inSg ?_
  | with_reducible refine r_notInSg ?_
  | with_reducible refine r_strE ?_
  | with_reducible refine r_szle (by first | decide | (simp only [List.length_cons, List.length_nil]; omega)) ?_
  | with_reducible refine r_revS ?_
  | ((with_reducible show rIxL _ (.ref _) (.int _) _ _); apply r_ixL; (· walk_at "sq"); (· exact rfl))
  | ((with_reducible show rIxT _ (.ref _) (.int _) _ _); apply r_ixT; (· walk_at "sq"); (· exact rfl))
  | ((with_reducible show rLenSq _ [.ref _] _ _); first | (apply r_lenL; (· walk_at "sq")) | (apply r_lenT; (· walk_at "sq")))
  | ((with_reducible show rI _ _ (.int _) (.int _) _ _); refine r_I (by walk_at "ar") ?_)
  | with_reducible refine r_ct ?_)
local macro_rules | `(tactic| walk_at "sq") => `(tactic| first
  | assumption
  | exact SqL.of (by assumption)
  | exact SqT.of (by assumption)
  | exact SqL.of upd_same
  | exact SqT.of upd_same)
local macro_rules | `(tactic| walk_at "ar") => `(tactic| first
  | exact Or.inl ⟨by omega, by omega⟩
  | exact Or.inr ⟨by omega, by omega⟩
  | exact ⟨by omega, by omega⟩
  | exact ⟨by decide, by decide, by decide⟩
  | (show (0 : Int) < _; omega)
  | omega)
local macro_rules | `(tactic| walk_at "r") => `(tactic| repeat walk_at "s")

section
variable {P : Program} {w : World} {K : PySem.W.Frag} {mg : Str → Option Value} {base : Heap}
/-- behind '(' -/
def tupR (k : Nat) (cs : List Nat) (p : Nat) : Tx.Res := match cs with
  | 41 :: r => .ok (.tuple []) r (p + 1)
  | _ => Tx.PI k cs p []
theorem tupR_clo (k : Nat) (r : List Nat) (p : Nat) : tupR k (41 :: r) p = .ok (.tuple []) r (p + 1) := rfl
theorem tupR_pi (k : Nat) (cs : List Nat) (p : Nat) (h : ∀ r, cs ≠ 41 :: r) : tupR k cs p = Tx.PI k cs p [] := by
  unfold tupR
  split
  · exact absurd rfl (h _)
  · rfl
theorem PV_tupR (k p : Nat) (r : List Nat) : Tx.PV (k + 1) (40 :: r) p = tupR k r (p + 1) := by
  by_cases h : ∃ r', r = 41 :: r'
  · obtain ⟨r', rfl⟩ := h
    rfl
  · rw [Tx.PV_tup k p r (fun r' z => h ⟨r', z⟩), tupR_pi _ _ _ fun r' z => h ⟨r', z⟩]
def spFirst (n : Nat) : Sp := fun vs H Q _ => ∃ (l : List Nat) (p dp : Nat), vs = [.str (SX.S l), .int (p : Nat), .int (dp : Nat)] ∧ p ≤ l.length ∧ l.length ≤ 100000 ∧ dp ≤ 30 ∧ 30 - dp < n ∧ ∀ q H', Ex H H' → Out3 H' q (Tx.PV (30 - dp) (l.drop p) p) → Q (.ref q) H'
def spTup (n : Nat) : Sp := fun vs H Q _ => ∃ (l : List Nat) (p dp : Nat), vs = [.str (SX.S l), .int (p : Nat), .int (dp : Nat)] ∧ p ≤ l.length ∧ l.length ≤ 100000 ∧ dp ≤ 30 ∧ 30 - dp < n ∧ ∀ q H', Ex H H' → Out3 H' q (tupR (30 - dp) (l.drop p) p) → Q (.ref q) H'
theorem bot_first (S : C54 K mg) : Cal P w K mg base 1 "_law_first_wrong" spBot :=
  cal_of S (st := s_law_first_wrong) (by simp [fn, d_law_first_wrong]) (by decide +kernel) sc_law_first_wrong bd_law_first_wrong (fun _ _ _ _ h => h.elim) fun f cdv A outer s H vs Q E tk px hr h => h.elim
theorem step_tuple (S : C54 K mg) (n : Nat) (c_law_first_wrong : Cal P w K mg base (2 * n + 1) "_law_first_wrong" (spFirst n)) : Cal P w K mg base (2 * n + 2) "_law_read_tuple" (spTup n) := by
  refine cal_of S (k := 2 * n + 1) (st := s_law_read_tuple) (by simp [fn, d_law_read_tuple]) (by decide +kernel) sc_law_read_tuple bd_law_read_tuple (fun vs H Q E ⟨l, p, dp, h, _⟩ => by rw [h] <;> rfl) fun f cdv A outer s H vs Q E tk px hr h => ?_
  obtain ⟨l, p, dp, rfl, hp, hl, hdp, hn, hQ⟩ := h
  refine ⟨_, (pss_cons (ps_set (i := 3) sc_law_read_tuple.nd rfl (by first | exact Or.inl rfl | exact Or.inr rfl) (pe_tup pa_nil))
      (Evl.pss_cut (ps_if ((pw_and (pt_cmpR op_lt (pv 1) (pe_callB call_lenS (by rfl) (S.free "len") PySem.boot_len (pa_cons (pv 0) pa_nil)) (nomark _)) (pw_and1 (pt_cmpR op_eq (pe_ix ix_str (pv 0) (pv 1) (fun _ _ => rfl)) (pe_sl [41]) (nomark _))))).pt (pss_one (ps_ret (pe_tup (pa_cons (pe_tup pa_nil) (pa_cons (pe_op op_add (pv 1) pe_int) (pa_cons pe_bl pa_nil)))))) pss_nil)
      (pss_one (ps_while (passes_of rfl) (pt_val pe_bl) (pss_cons (ps_asg (pe_cS c_law_first_wrong hr (by first | decide | omega) tk (pa_cons (pv 0) (pa_cons (pv 1) (pa_cons (pv 2) pa_nil)))) (pg_tup rfl (pgs_cons (pg_name (i := 4) sc_law_read_tuple.nd rfl (by first | exact Or.inl rfl | exact Or.inr rfl)) (pgs_cons (pg_name (i := 1) sc_law_read_tuple.nd rfl (by first | exact Or.inl rfl | exact Or.inr rfl)) (pgs_cons (pg_name (i := 5) sc_law_read_tuple.nd rfl (by first | exact Or.inl rfl | exact Or.inr rfl)) pgs_nil)))))
        (pss_cons (ps_if (pt_val (pv 5)) (pss_one (ps_ret (pe_tup (pa_cons pe_non (pa_cons (pv 1) (pa_cons pe_bl pa_nil)))))) pss_nil)
        (pss_cons (ps_set (i := 3) sc_law_read_tuple.nd rfl (by first | exact Or.inl rfl | exact Or.inr rfl) (pe_op op_addT (pv 3) (pe_tup (pa_cons (pv 4) pa_nil))))
        (pss_cons (ps_if ((pw_and (pt_cmpR op_lt (pv 1) (pe_callB call_lenS (by rfl) (S.free "len") PySem.boot_len (pa_cons (pv 0) pa_nil)) (nomark _)) (pw_and1 (pt_cmpR op_eq (pe_ix ix_str (pv 0) (pv 1) (fun _ _ => rfl)) (pe_sl [41]) (nomark _))))).pt (pss_one (ps_ret (pe_tup (pa_cons (pv 3) (pa_cons (pe_op op_add (pv 1) pe_int) (pa_cons pe_bl pa_nil)))))) pss_nil)
        (pss_cons (ps_if ((pw_or (pt_cmpR op_eq (pv 1) (pe_callB call_lenS (by rfl) (S.free "len") PySem.boot_len (pa_cons (pv 0) pa_nil)) (nomark _)) (pw_or1 (pt_cmpR op_ne (pe_ix ix_str (pv 0) (pv 1) (fun _ _ => rfl)) (pe_sl [44]) (nomark _))))).pt (pss_one (ps_ret (pe_tup (pa_cons pe_non (pa_cons (pv 1) (pa_cons pe_bl pa_nil)))))) pss_nil)
        (pss_one (ps_set (i := 1) sc_law_read_tuple.nd rfl (by first | exact Or.inl rfl | exact Or.inr rfl) (pe_op op_add (pv 1) pe_int)))))))))))), ?_⟩
  try simp only [cxK]
  generalize hR0 : tupR (30 - dp) (l.drop p) p = R at hQ
  walk_at "r"
  intro p1 hp1
  generalize hU1 : L2.upd H p1 _ = H1
  have x1 : Ex H H1 := hU1 ▸ Evl.Ex.new hp1
  have e1 : H1 p1 = some (.tup []) := hU1 ▸ upd_same
  walk_at "r"
  refine ⟨fun σ H' => Ex H1 H' ∧ σ = [some (.str (SX.S l)), some (.int (p : Nat)), some (.int (dp : Nat)), some (.ref p1), none, none] ∧ (∀ r, l.drop p ≠ 41 :: r), ?_, ?_⟩
  · walk_at "r"
    refine itd (fun h1 => ?_) (fun h1 => ?_)
    · obtain ⟨c, hc1, hc2, hc3⟩ := drop_at (show p < l.length by omega)
      walk_at "r"
      refine r_ixS (by omega) hc2 ?_
      walk_at "r"
      refine itd (fun h2 => ?_) (fun h2 => ?_)
      · rw [hc3, h2, tupR_clo] at hR0
        walk_at "r"
        intro p2 hp2
        generalize hU2 : L2.upd H1 p2 _ = H2
        have x2 : Ex H1 H2 := hU2 ▸ Evl.Ex.new hp2
        have e2 : H2 p2 = some (.tup []) := hU2 ▸ upd_same
        walk_at "r"
        intro q hq
        have x3 : Ex H2 (L2.upd H2 q (.tup [.ref p2, .int ((p : Int) + 1), .bl false])) := Evl.Ex.new hq
        refine hQ q _ (Evl.Ex.trans (Evl.Ex.trans x1 x2) x3) ?_
        rw [← hR0]
        exact ⟨_, upd_same, .tup (x3 _ _ e2) .nil⟩
      · walk_at "r"
        exact ⟨fun _ _ h => h, rfl, fun r z => h2 (by rw [hc3] at z; exact (List.cons.inj z).1)⟩
    · walk_at "r"
      exact ⟨fun _ _ h => h, rfl, fun r z => by rw [drop_end (by omega)] at z; cases z⟩
  · rintro σ H2 ⟨x2, rfl, hne⟩
    rw [tupR_pi _ _ _ hne] at hR0
    walk_at "r"
    refine ⟨fun m σ H' => Ex H H' ∧ ∃ (p' : Nat) (a : Addr) (xs : List V) (ds : List PyData) (u v : Option V), σ = [some (.str (SX.S l)), some (.int (p' : Nat)), some (.int (dp : Nat)), some (.ref a), u, v] ∧ m = l.length + 1 - p' ∧ H' a = some (.tup xs) ∧ TDs H' xs ds ∧ p' ≤ l.length ∧ ds.length ≤ p' ∧ Tx.PI (30 - dp) (l.drop p') p' ds = R, ⟨_, Evl.Ex.trans x1 x2, p, p1, [], [], none, none, rfl, rfl, x2 _ _ e1, .nil, hp, by simp, hR0⟩, ?_⟩
    rintro m σ H3 ⟨x3, p', a, xs, ds, u, v, rfl, rfl, ha, hds, hp', hdl, hR⟩
    have hdl2 := hds.len
    rw [Tx.PI_next] at hR
    have hsuf := Tx.PV_suf (30 - dp) (l.drop p') p'
    have hle := Tx.PV_le (30 - dp) (l.drop p') p'
    generalize hPV : Tx.PV (30 - dp) (l.drop p') p' = RR at hR hsuf hle
    walk_at "r"
    refine ⟨fun σ H' => Ex H H' ∧ ∃ (p2 : Nat) (a : Addr) (xs : List V) (ds : List PyData) (u v : Option V), σ = [some (.str (SX.S l)), some (.int (p2 : Nat)), some (.int (dp : Nat)), some (.ref a), u, v] ∧ p' < p2 ∧ H' a = some (.tup xs) ∧ TDs H' xs ds ∧ p2 ≤ l.length ∧ ds.length ≤ p2 ∧ Tx.PI (30 - dp) (l.drop p2) p2 ds = R, ?_, ?_⟩
    · rintro σ' H' ⟨y1, p2, y2, y3, y4, y5, y6, y7, y8, y9⟩
      exact ⟨l.length + 1 - p2, by omega, y1, p2, y2, y3, y4, y5, y6, y7, rfl, y9⟩
    · walk_at "r"
      refine ⟨l, p', dp, rfl, hp', hl, hdp, hn, fun q H4 x4 ho => ?_⟩
      rw [hPV] at ho
      have x04 : Ex H H4 := Evl.Ex.trans x3 x4
      cases RR with
      | bad q' =>
        have ho : H4 q = some (.tup [.non, .int (q' : Nat), .bl true]) := ho
        refine r_gtup (SqT.of ho) rfl ?_
        walk_at "r"
        intro q2 hq2
        refine hQ q2 _ (Evl.Ex.trans x04 (Evl.Ex.new hq2)) ?_
        rw [← hR]
        exact upd_same
      | ok d r q' =>
        obtain ⟨vv, ho, hd⟩ := ho
        obtain ⟨hs1, hs2⟩ := hsuf
        obtain ⟨hl1, hl2⟩ := hle
        rw [List.length_drop] at hl1 hl2
        have hr : r = l.drop q' := by
          rw [hs2, List.drop_drop]
          congr 1
          omega
        have hR : Tx.piNext (30 - dp) ds (.ok d (l.drop q') q') = R := hr ▸ hR
        have hq' : q' ≤ l.length := by omega
        refine r_gtup (SqT.of ho) rfl ?_
        walk_at "r"
        intro p3 hp3
        generalize hU5 : L2.upd H4 p3 _ = H5
        have x5 : Ex H4 H5 := hU5 ▸ Evl.Ex.new hp3
        have e5 : H5 p3 = some (.tup [vv]) := hU5 ▸ upd_same
        refine r_addT (x5 _ _ (x4 _ _ ha)) e5 (by simp) (by simp only [List.length_cons, List.length_nil]; omega) fun a6 H6 x6 e6 => ?_
        have hds6 : TDs H6 (xs ++ [vv]) (ds ++ [d]) := TDs.app (hds.kt (Ex.kt (Evl.Ex.trans x4 (Evl.Ex.trans x5 x6)))) (.cons (hd.kt (Ex.kt (Evl.Ex.trans x5 x6))) .nil)
        have x06 : Ex H H6 := Evl.Ex.trans x04 (Evl.Ex.trans x5 x6)
        walk_at "r"
        have wrong : Tx.Res.bad q' = R → ∀ q2, H6 q2 = none → Q (.ref q2) (L2.upd H6 q2 (.tup [.non, .int (q' : Nat), .bl true])) := fun hb q2 hq2 => by
          refine hQ q2 _ (Evl.Ex.trans x06 (Evl.Ex.new hq2)) ?_
          rw [← hb]
          exact upd_same
        refine itd (fun h1 => ?_) (fun h1 => ?_)
        · obtain ⟨c, hc1, hc2, hc3⟩ := drop_at (show q' < l.length by omega)
          rw [hc3] at hR
          walk_at "r"
          refine r_ixS (by omega) hc2 ?_
          walk_at "r"
          refine itd (fun h2 => ?_) (fun h2 => ?_)
          · subst h2
            walk_at "r"
            intro q2 hq2
            have x7 : Ex H6 (L2.upd H6 q2 (.tup [.ref a6, .int ((q' : Int) + 1), .bl false])) := Evl.Ex.new hq2
            refine hQ q2 _ (Evl.Ex.trans x06 x7) ?_
            rw [← hR]
            exact ⟨_, upd_same, .tup (x7 _ _ e6) (hds6.kt (Ex.kt x7))⟩
          · walk_at "r"
            refine itd (fun h3 => absurd h3 (by omega)) (fun h3 => ?_)
            walk_at "r"
            refine r_ixS (by omega) hc2 ?_
            walk_at "r"
            refine itn (fun h4 => ?_) (fun h4 => ?_)
            · walk_at "r"
              refine wrong ?_
              rw [← hR]
              unfold Tx.piNext
              split
              · rename_i z
                cases z
              · rename_i z
                cases z
                split
                · rename_i z
                  exact absurd (List.cons.inj z).1 h2
                · rename_i z
                  exact absurd (List.cons.inj z).1 h4
                · rfl
            · subst h4
              walk_at "r"
              exact ⟨x06, q' + 1, a6, _, _, _, _, rfl, by omega, e6, hds6, by omega, by simp; omega, hR⟩
        · walk_at "r"
          refine itd (fun h3 => ?_) (fun h3 => absurd (show (q' : Int) = l.length by omega) h3)
          walk_at "r"
          refine wrong ?_
          rw [← hR, drop_end (by omega)]
          rfl
theorem step_first (S : C54 K mg) (n : Nat) (c_law_read_tuple : Cal P w K mg base (2 * n + 2) "_law_read_tuple" (spTup n)) : Cal P w K mg base (2 * n + 3) "_law_first_wrong" (spFirst (n + 1)) := by
  have c_law_read_string := c_law_read_string (P := P) (w := w) (base := base) S
  have c_law_read_integer := c_law_read_integer (P := P) (w := w) (base := base) S
  refine cal_of S (k := 2 * n + 2) (st := s_law_first_wrong) (by simp [fn, d_law_first_wrong]) (by decide +kernel) sc_law_first_wrong bd_law_first_wrong (fun vs H Q E ⟨l, p, dp, h, _⟩ => by rw [h] <;> rfl) fun f cdv A outer s H vs Q E tk px hr h => ?_
  obtain ⟨l, p, dp, rfl, hp, hl, hdp, hn, hQ⟩ := h
  refine ⟨_, (pss_cons (ps_if (pt_cmpR op_ge (pv 1) (pe_callB call_lenS (by rfl) (S.free "len") PySem.boot_len (pa_cons (pv 0) pa_nil)) (nomark _)) (pss_one (ps_ret (pe_tup (pa_cons pe_non (pa_cons (pv 1) (pa_cons pe_bl pa_nil)))))) pss_nil)
      (pss_cons (ps_set (i := 3) sc_law_first_wrong.nd rfl (by first | exact Or.inl rfl | exact Or.inr rfl) (pe_ix ix_str (pv 0) (pv 1) (fun _ _ => rfl)))
      (pss_cons (ps_if (pt_cmpR op_eq (pv 3) (pe_sl [46]) (nomark _)) (pss_one (ps_ret (pe_tup (pa_cons pe_non (pa_cons (pe_op op_add (pv 1) pe_int) (pa_cons pe_bl pa_nil)))))) pss_nil)
      (pss_cons (ps_if (pt_cmpR op_eq (pv 3) (pe_sl [39]) (nomark _)) (pss_one (ps_ret (pe_cS c_law_read_string hr (by first | decide | omega) tk (pa_cons (pv 0) (pa_cons (pe_op op_add (pv 1) pe_int) pa_nil))))) pss_nil)
      (pss_cons (ps_if (pt_cmpR op_eq (pv 3) (pe_sl [40]) (nomark _)) (pss_one (ps_ret (pe_ifExp (pt_cmpR op_lt (pv 2) pe_int (nomark _)) (pe_cS c_law_read_tuple hr (by first | decide | omega) tk (pa_cons (pv 0) (pa_cons (pe_op op_add (pv 1) pe_int) (pa_cons (pe_op op_add (pv 2) pe_int) pa_nil)))) (pe_tup (pa_cons pe_non (pa_cons (pv 1) (pa_cons pe_bl pa_nil))))))) pss_nil)
      (pss_one (ps_ret (pe_cS c_law_read_integer hr (by first | decide | omega) tk (pa_cons (pv 0) (pa_cons (pv 1) pa_nil)))))))))), ?_⟩
  try simp only [cxK]
  walk_at "r"
  refine itd (fun h1 => ?_) (fun h1 => ?_)
  · rw [drop_end (by omega)] at hQ
    walk_at "r"
    intro q hq
    exact hQ q _ (Evl.Ex.new hq) upd_same
  · obtain ⟨c, hc1, hc2, hc3⟩ := drop_at (show p < l.length by omega)
    rw [hc3] at hQ
    walk_at "r"
    refine r_ixS (by omega) hc2 ?_
    walk_at "r"
    refine itd (fun h2 => ?_) (fun h2 => ?_)
    · subst h2
      walk_at "r"
      intro q hq
      exact hQ q _ (Evl.Ex.new hq) ⟨_, upd_same, .non⟩
    · walk_at "r"
      refine itd (fun h3 => ?_) (fun h3 => ?_)
      · subst h3
        walk_at "r"
        exact ⟨l, p + 1, rfl, by omega, hl, hQ⟩
      · walk_at "r"
        refine itd (fun h4 => ?_) (fun h4 => ?_)
        · subst h4
          walk_at "r"
          refine itd (fun h5 => ?_) (fun h5 => ?_)
          · walk_at "r"
            rw [show 30 - dp = (30 - (dp + 1)) + 1 by omega, PV_tupR] at hQ
            exact ⟨l, p + 1, dp + 1, rfl, by omega, hl, by omega, by omega, hQ⟩
          · rw [show 30 - dp = 0 by omega] at hQ
            walk_at "r"
            intro q hq
            exact hQ q _ (Evl.Ex.new hq) upd_same
        · walk_at "r"
          rw [Tx.PV_int _ _ _ (by simp) (fun r z => h2 (List.cons.inj z).1) (fun r z => h3 (List.cons.inj z).1) (fun r z => h4 (List.cons.inj z).1), ← hc3] at hQ
          exact ⟨l, p, rfl, by omega, hl, hQ⟩
theorem c_law_first_wrong (S : C54 K mg) : ∀ n : Nat, Cal P w K mg base (2 * n + 1) "_law_first_wrong" (spFirst n)
  | 0 => ((bot_first S).mono (by omega)).imp fun vs H Q E ⟨_, _, _, _, _, _, _, h, _⟩ => absurd h (Nat.not_lt_zero _)
  | n + 1 => step_first S n (step_tuple S n (c_law_first_wrong S n))
def OutP (H : Hp) (p : Addr) : Sum PyData Nat → Prop
  | .inl d => ∃ v, H p = some (.tup [.str (SX.S [116, 104, 105, 110, 103]), v]) ∧ TD H v d
  | .inr q => H p = some (.tup [.str (SX.S [119, 114, 111, 110, 103]), .int (q : Nat)])
def spUnp : Sp := fun vs H Q _ => ∃ (l : List Nat), vs = [.str (SX.S l)] ∧ l.length ≤ 100000 ∧ ∀ q H', Ex H H' → OutP H' q (Tx.parse l) → Q (.ref q) H'
theorem c_law_unpacked (S : C54 K mg) : Cal P w K mg base 64 "_law_unpacked" spUnp := by
  have c_law_first_wrong := c_law_first_wrong (P := P) (w := w) (base := base) S 31
  refine cal_of S (st := s_law_unpacked) (by simp [fn, d_law_unpacked]) (by decide +kernel) sc_law_unpacked bd_law_unpacked (fun vs H Q E ⟨l, h, _⟩ => by rw [h] <;> rfl) fun f cdv A outer s H vs Q E tk px hr h => ?_
  obtain ⟨l, rfl, hl, hQ⟩ := h
  refine ⟨_, (pss_cons (ps_asg (pe_cS c_law_first_wrong hr (by first | decide | omega) tk (pa_cons (pv 0) (pa_cons pe_int (pa_cons pe_int pa_nil)))) (pg_tup rfl (pgs_cons (pg_name (i := 1) sc_law_unpacked.nd rfl (by first | exact Or.inl rfl | exact Or.inr rfl)) (pgs_cons (pg_name (i := 2) sc_law_unpacked.nd rfl (by first | exact Or.inl rfl | exact Or.inr rfl)) (pgs_cons (pg_name (i := 3) sc_law_unpacked.nd rfl (by first | exact Or.inl rfl | exact Or.inr rfl)) pgs_nil)))))
      (pss_cons (ps_if (pt_val (pv 3)) (pss_one (ps_ret (pe_tup (pa_cons (pe_sl [119, 114, 111, 110, 103]) (pa_cons (pv 2) pa_nil))))) pss_nil)
      (pss_one (ps_ret (pe_ifExp (pt_cmpR op_eq (pv 2) (pe_callB call_lenS (by rfl) (S.free "len") PySem.boot_len (pa_cons (pv 0) pa_nil)) (nomark _)) (pe_tup (pa_cons (pe_sl [116, 104, 105, 110, 103]) (pa_cons (pv 1) pa_nil))) (pe_tup (pa_cons (pe_sl [119, 114, 111, 110, 103]) (pa_cons (pv 2) pa_nil)))))))), ?_⟩
  try simp only [cxK]
  have hsuf := Tx.PV_suf 30 l 0
  have hle := Tx.PV_le 30 l 0
  unfold Tx.parse at hQ
  walk_at "r"
  refine ⟨l, 0, 0, rfl, by omega, hl, by omega, by omega, fun q H4 x4 ho => ?_⟩
  have ho : Out3 H4 q (Tx.PV 30 l 0) := ho
  generalize hPV : Tx.PV 30 l 0 = RR at ho hsuf hle hQ
  cases RR with
  | bad q' =>
    have ho : H4 q = some (.tup [.non, .int (q' : Nat), .bl true]) := ho
    refine r_gtup (SqT.of ho) rfl ?_
    walk_at "r"
    intro q2 hq2
    exact hQ q2 _ (Evl.Ex.trans x4 (Evl.Ex.new hq2)) upd_same
  | ok d r q' =>
    obtain ⟨vv, ho, hd⟩ := ho
    obtain ⟨hs1, hs2⟩ := hsuf
    obtain ⟨hl1, hl2⟩ := hle
    refine r_gtup (SqT.of ho) rfl ?_
    walk_at "r"
    refine itd (fun h1 => ?_) (fun h1 => ?_)
    · have : r = [] := List.length_eq_zero_iff.mp (by omega)
      subst this
      walk_at "r"
      intro q2 hq2
      exact hQ q2 _ (Evl.Ex.trans x4 (Evl.Ex.new hq2)) ⟨vv, upd_same, hd.kt (Ex.kt (Evl.Ex.new hq2))⟩
    · cases r with
      | nil => exact absurd (by simp at hl2; omega) h1
      | cons c r =>
        walk_at "r"
        intro q2 hq2
        exact hQ q2 _ (Evl.Ex.trans x4 (Evl.Ex.new hq2)) upd_same
end
end K54
--@law law_k54_whole_things_as_texts h54.json
set_option Elab.async false
set_option linter.all false
set_option maxRecDepth 100000
set_option maxHeartbeats 4000000
namespace K54
open PySem PySem.Spec PyProof.Rows L2 KB
open SX (S)
local macro_rules | `(tactic| walk_at "s") => `(tactic| first
  | with_reducible refine r_seq ?_
  | with_reducible refine r_set ?_
  | ((with_reducible show tVar _ _ _ _); refine r_var rfl ?_)
  | with_reducible refine r_c ?_
  | with_reducible refine r_op ?_
  | with_reducible refine r_cb ?_
  | with_reducible refine r_cons ?_
  | with_reducible refine r_nil ?_
  | with_reducible refine r_test ?_
  | with_reducible refine r_if ?_
  | with_reducible refine r_I0 ?_
  | with_reducible refine r_eqS1 ?_
  | with_reducible refine r_neS1 ?_
  | with_reducible refine r_eqSL ?_
  | with_reducible refine r_neSL ?_
  | with_reducible refine r_eqI ?_
  | ((with_reducible show rEq _ _ _ _); refine r_eq ?_)
  | ((with_reducible show rNe _ _ _ _); refine r_ne ?_)
  | with_reducible refine r_bl ?_
  | with_reducible refine r_blV ?_
  | with_reducible refine r_intV ?_
  | with_reducible refine r_ret ?_
  | with_reducible refine r_next ?_
  | with_reducible refine r_callS ?_
  | with_reducible refine r_call ?_
  | with_reducible refine r_asg ?_
  | with_reducible refine r_drop ?_
  | with_reducible refine r_retN ?_
  | with_reducible refine r_un ?_
  | with_reducible refine r_U ?_
  | with_reducible refine r_tup ?_
  | with_reducible refine r_lst ?_
  | with_reducible refine r_andV ?_
  | with_reducible refine r_orV ?_
  | with_reducible refine r_notV ?_
  | with_reducible refine r_ifE ?_
  | with_reducible refine r_meth ?_
  | with_reducible refine r_make ?_
  | with_reducible refine r_fld ?_
  | with_reducible refine r_sl ?_
  | with_reducible refine r_nop ?_
  | with_reducible refine r_part ?_
  | with_reducible refine r_B ?_
  | with_reducible refine r_and ?_
  | with_reducible refine r_or ?_
  | with_reducible refine r_not ?_
  | with_reducible refine r_chain ?_
  | with_reducible refine r_bm0 ?_
  | with_reducible refine r_bm ?_
  | with_reducible refine r_m1 ?_
  | with_reducible refine r_gname ?_
  | with_reducible refine r_gnil ?_
  | with_reducible refine r_gcons ?_
  | with_reducible refine r_gsub ?_
  | with_reducible refine r_sfld ?_
  | with_reducible refine r_faug ?_
  | with_reducible refine r_rAdd ?_
  | with_reducible refine r_rSub ?_
  | with_reducible refine r_ilist ?_
  | with_reducible refine r_itup ?_
  | with_reducible refine r_irng1 ?_
  | with_reducible refine r_lc ?_
  | with_reducible refine r_for ?_
  | with_reducible refine r_istr ?_
  | with_reducible refine r_isN ?_
  | with_reducible refine r_isnN ?_
  | with_reducible refine r_abs ?_
  | with_reducible refine r_int1 ?_
  | with_reducible refine r_leS ?_
  | with_reducible refine r_brk ?_
  | with_reducible refine r_strV ?_
  | with_reducible refine iteT ?_
  | with_reducible refine iteF ?_
  | with_reducible refine itT ?_
  | with_reducible refine itF ?_
  | ((with_reducible show rLenS _ _ _); refine r_lenS (by omega) ?_)
  | ((with_reducible show rAddS _ _ _ _); refine r_addS (by first | omega | (simp only [List.length_append, List.length_cons, List.length_nil]; omega)) ?_)
  | with_reducible refine r_inSg ?_
  | with_reducible refine r_notInSg ?_
  | with_reducible refine r_strE ?_
  | with_reducible refine r_szle (by first | decide | (simp only [List.length_cons, List.length_nil]; omega)) ?_
  | with_reducible refine r_revS ?_
  | ((with_reducible show rIxL _ (.ref _) (.int _) _ _); apply r_ixL; (· walk_at "sq"); (· exact rfl))
  | ((with_reducible show rIxT _ (.ref _) (.int _) _ _); apply r_ixT; (· walk_at "sq"); (· exact rfl))
  | ((with_reducible show rLenSq _ [.ref _] _ _); first | (apply r_lenL; (· walk_at "sq")) | (apply r_lenT; (· walk_at "sq")))
  | ((with_reducible show rI _ _ (.int _) (.int _) _ _); refine r_I (by walk_at "ar") ?_)
  | with_reducible refine r_ct ?_)
local macro_rules | `(tactic| walk_at "sq") => `(tactic| first
  | assumption
  | exact SqL.of (by assumption)
  | exact SqT.of (by assumption)
  | exact SqL.of upd_same
  | exact SqT.of upd_same)
local macro_rules | `(tactic| walk_at "ar") => `(tactic| first
  | exact Or.inl ⟨by omega, by omega⟩
  | exact Or.inr ⟨by omega, by omega⟩
  | exact ⟨by omega, by omega⟩
  | exact ⟨by decide, by decide, by decide⟩
  | (show (0 : Int) < _; omega)
  | omega)
local macro_rules | `(tactic| walk_at "r") => `(tactic| repeat walk_at "s")

section
variable {P : Program} {w : World} {K : PySem.W.Frag} {mg : Str → Option Value} {base : Heap}
abbrev aR (K : PySem.W.Frag) : Addr := He.ga K "Reader"
def flds (l : List Nat) (p : Int) (lv : Addr) : List (Str × V) := [("text", .str (SX.S l)), ("place", .int p), ("levels", .ref lv)]
theorem fl_text (l : List Nat) (p : Int) (lv : Addr) : (flds l p lv).lookup ("text" : Str) = some (V.str (SX.S l)) := by simp [flds, List.lookup]
theorem fl_place (l : List Nat) (p : Int) (lv : Addr) : (flds l p lv).lookup ("place" : Str) = some (V.int p) := by
  simp [flds, List.lookup, show (("place" : Str) == ("text" : Str)) = false by decide]
theorem fl_levels (l : List Nat) (p : Int) (lv : Addr) : (flds l p lv).lookup ("levels" : Str) = some (V.ref lv) := by
  simp [flds, List.lookup, show (("levels" : Str) == ("text" : Str)) = false by decide, show (("levels" : Str) == ("place" : Str)) = false by decide]
theorem put_place (l : List Nat) (p q : Int) (lv : Addr) : putF ("place" : Str) (V.int q) (flds l p lv) = flds l q lv := by
  simp [flds, putF, show ¬ (("text" : Str) = ("place" : Str)) by decide]
theorem put_init (l : List Nat) (lv : Addr) : putF ("levels" : Str) (V.ref lv) (putF ("place" : Str) (V.int 0) (putF ("text" : Str) (V.str (SX.S l)) [])) = flds l 0 lv := by
  simp [flds, putF, show ¬ (("text" : Str) = ("place" : Str)) by decide, show ¬ (("text" : Str) = ("levels" : Str)) by decide, show ¬ (("place" : Str) = ("levels" : Str)) by decide]
def RO (K : PySem.W.Frag) (H : Hp) (x dx : Addr) (l : List Nat) (p : Int) (lv : Addr) : Prop := H x = some (.ins (aR K) dx (flds l p lv))
section
variable {H : Hp} {x dx lv : Addr} {l : List Nat} {p : Int} {Q : V → Prop} {D : Hp → Prop} {f : Str}
theorem r_ft (h : RO K H x dx l p lv) (c : Cls K (aR K)) (n : NoAttr K (aR K) "text") (q : Q (.str (SX.S l))) : ∃ a C dx fs v, V.ref x = V.ref a ∧ H a = some (.ins C dx fs) ∧ Cls K C ∧ NoAttr K C "text" ∧ fs.lookup ("text" : Str) = some v ∧ Q v := ⟨_, _, _, _, _, rfl, h, c, n, fl_text l p lv, q⟩
theorem r_fp (h : RO K H x dx l p lv) (c : Cls K (aR K)) (n : NoAttr K (aR K) "place") (q : Q (.int p)) : ∃ a C dx fs v, V.ref x = V.ref a ∧ H a = some (.ins C dx fs) ∧ Cls K C ∧ NoAttr K C "place" ∧ fs.lookup ("place" : Str) = some v ∧ Q v := ⟨_, _, _, _, _, rfl, h, c, n, fl_place l p lv, q⟩
theorem r_fl (h : RO K H x dx l p lv) (c : Cls K (aR K)) (n : NoAttr K (aR K) "levels") (q : Q (.ref lv)) : ∃ a C dx fs v, V.ref x = V.ref a ∧ H a = some (.ins C dx fs) ∧ Cls K C ∧ NoAttr K C "levels" ∧ fs.lookup ("levels" : Str) = some v ∧ Q v := ⟨_, _, _, _, _, rfl, h, c, n, fl_levels l p lv, q⟩
theorem r_mx {T : Prop} (h : RO K H x dx l p lv) (hm : (flds l p lv).lookup f = none) (q : T) : ∃ a dx fs, V.ref x = V.ref a ∧ H a = some (.ins (aR K) dx fs) ∧ fs.lookup f = none ∧ T := ⟨_, _, _, rfl, h, hm, q⟩
theorem no_m (h1 : (f == ("text" : Str)) = false) (h2 : (f == ("place" : Str)) = false) (h3 : (f == ("levels" : Str)) = false) : (flds l p lv).lookup f = none := by
  simp [flds, List.lookup, h1, h2, h3]
end
theorem r_adv {H : Hp} {x dx lv : Addr} {l : List Nat} {p : Nat} {σ : L2.St} {N : Hp → Prop} (h : RO K H x dx l (p : Nat) lv) (c : Cls K (aR K)) (n : NoAttr K (aR K) "place")
    (q : ∀ H', RO K H' x dx l ((p + 1 : Nat) : Int) lv → Xe1 x H H' → N H') :
    ∃ a C dx fs v, V.ref x = V.ref a ∧ H a = some (.ins C dx fs) ∧ Cls K C ∧ NoAttr K C "place" ∧ fs.lookup ("place" : Str) = some v ∧ tC (.int 1) σ H fun y H2 => rAdd v y H2 fun z H3 => ∃ dx' fs', H3 a = some (.ins C dx' fs') ∧ fs'.length < 1000 ∧ N (L2.upd H3 a (.ins C dx' (putF "place" z fs'))) := by
  refine ⟨_, _, _, _, _, rfl, h, c, n, fl_place l _ lv, r_c (r_rAdd ⟨_, _, h, by simp [flds], ?_⟩)⟩
  rw [put_place]
  exact q _ upd_same fun b o hb e => by rw [upd_ne hb]; exact e
local macro_rules | `(tactic| walk_at "s") => `(tactic| first
  | with_reducible refine r_ft (by assumption) (by assumption) (by assumption) ?_
  | with_reducible refine r_fp (by assumption) (by assumption) (by assumption) ?_
  | with_reducible refine r_fl (by assumption) (by assumption) (by assumption) ?_
  | with_reducible refine r_mx (by assumption) (no_m (by decide) (by decide) (by decide)) ?_)
def spInit (K : PySem.W.Frag) : Sp := fun vs H Q _ => ∃ (x dx : Addr) (l : List Nat), vs = [.ref x, .str (SX.S l)] ∧ H x = some (.ins (aR K) dx []) ∧ ∀ lv H', H lv = none → Xe1 x H H' → RO K H' x dx l 0 lv → H' lv = some (.lst []) → Q .non H'
theorem k_Reader (S : C54 K mg) : Mak P w K mg base 1 "Reader" (He.ga K "Reader") (spInit K) := by
  refine mak_of S (k := 0) (q := "Reader.__init__") (st := s_Reader_init) (by simp [fn, d_Reader_init]) (by decide +kernel) (by decide +kernel) sc_Reader_init bd_Reader_init (fun vs H Q E ⟨x, dx, l, h, _⟩ => by rw [h] <;> rfl) fun f cdv A outer s H vs Q E tk px hr h => ?_
  obtain ⟨x, dx, l, rfl, hx, hQ⟩ := h
  refine ⟨_, (pss_cons (ps_fld (pv 0) (pv 1) rfl)
      (pss_cons (ps_fld (pv 0) pe_int rfl)
      (pss_one (ps_fld (pv 0) (pe_lst pa_nil) rfl)))), ?_⟩
  try simp only [cxK]
  have hc := S.cls "Reader"
  have n1 := S.noat "Reader" "text"
  have n2 := S.noat "Reader" "place"
  have n3 := S.noat "Reader" "levels"
  walk_at "r"
  refine ⟨_, _, _, _, rfl, hx, hc, n1, by simp, ?_⟩
  walk_at "r"
  refine ⟨_, _, _, _, rfl, upd_same, hc, n2, by simp [putF], ?_⟩
  walk_at "r"
  intro lv hlv
  have hl1 : lv ≠ x := fun z => by rw [z, upd_same] at hlv; cases hlv
  walk_at "r"
  refine ⟨_, _, _, _, rfl, by rw [upd_ne (Ne.symm hl1)]; exact upd_same, hc, n3, ?_, ?_⟩
  · simp [putF, show ¬ (("text" : Str) = ("place" : Str)) by decide]
  · walk_at "r"
    refine hQ lv _ ?_ ?_ ?_ ?_
    · rw [upd_ne hl1, upd_ne hl1] at hlv
      exact hlv
    · intro b o hb e
      have hb2 : b ≠ lv := fun z => by
        rw [upd_ne hl1, upd_ne hl1, ← z, e] at hlv
        cases hlv
      rw [upd_ne hb, upd_ne hb2, upd_ne hb, upd_ne hb]
      exact e
    · show L2.upd _ x _ x = _
      rw [upd_same, put_init]
    · rw [upd_ne hl1]
      exact upd_same
def spWrong (K : PySem.W.Frag) : Sp := fun vs H Q E => ∃ (x dx : Addr) (l : List Nat) (p : Int) (lv : Addr), vs = [.ref x] ∧ RO K H x dx l p lv ∧ ∀ d H', Ex H H' → H' d = some (.xd [("place", .int p)]) → E (.ref (aBad K)) (some d) H'
theorem m_Reader_wrong (S : C54 K mg) (B : PySem.BadX.BadTxt P K mg (aBad K) (He.fAd K pB)) : Met P w K mg base 5 (He.ga K "Reader") "wrong" (spWrong K) := by
  refine met_of S (k := 4) (q := "Reader.wrong") (st := s_Reader_wrong) (by simp [fn, d_Reader_wrong]) (by decide +kernel) (by decide +kernel) sc_Reader_wrong bd_Reader_wrong (fun vs H Q E ⟨x, dx, l, p, lv, h, _⟩ => by rw [h] <;> rfl) fun f cdv A outer s H vs Q E tk px hr h => ?_
  obtain ⟨x, dx, l, p, lv, rfl, hx, hQ⟩ := h
  refine ⟨_, (pss_one (ps_raise rfl tk (pmk_BadText B hr (pa_cons (pe_fld (pv 0) rfl) pa_nil)))), ?_⟩
  try simp only [cxK]
  have hc := S.cls "Reader"
  have n2 := S.noat "Reader" "place"
  walk_at "r"
  show tCons (tFld K (tVar 0) "place") tNil _ H _
  walk_at "r"
  exact ⟨_, rfl, fun d hd => hQ d _ (Evl.Ex.new hd) upd_same⟩
def spSign (K : PySem.W.Frag) : Sp := fun vs H Q _ => ∃ (x dx : Addr) (l : List Nat) (p : Nat) (lv : Addr), vs = [.ref x] ∧ RO K H x dx l (p : Nat) lv ∧ l.length ≤ 100000 ∧ p ≤ l.length ∧ Q (.str (SX.S ((l.drop p).take 1))) H
theorem m_Reader_sign (S : C54 K mg) : Met P w K mg base 1 (He.ga K "Reader") "sign" (spSign K) := by
  refine met_of S (k := 0) (q := "Reader.sign") (st := s_Reader_sign) (by simp [fn, d_Reader_sign]) (by decide +kernel) (by decide +kernel) sc_Reader_sign bd_Reader_sign (fun vs H Q E ⟨x, dx, l, p, lv, h, _⟩ => by rw [h] <;> rfl) fun f cdv A outer s H vs Q E tk px hr h => ?_
  obtain ⟨x, dx, l, p, lv, rfl, hx, hl, hp, hQ⟩ := h
  refine ⟨_, (pss_one (ps_ret (pe_slice sl_str (pe_fld (pv 0) rfl) (po_some (pe_fld (pv 0) rfl)) (po_some (pe_op op_add (pe_fld (pv 0) rfl) pe_int))))), ?_⟩
  try simp only [cxK]
  have hc := S.cls "Reader"
  have n1 := S.noat "Reader" "text"
  have n2 := S.noat "Reader" "place"
  walk_at "r"
  refine r_slS (by omega) ?_
  rw [sIx_n _ _ _ hp]
  have e : (l.drop p).take (HT.sIx l.length l.length (some ((p : Int) + 1)) - p) = (l.drop p).take 1 := by
    have z : ((p : Int) + 1) = ((p + 1 : Nat) : Int) := rfl
    rw [z, HT.sIx_nat]
    by_cases h : p < l.length
    · rw [show min (p + 1) l.length - p = 1 by omega]
    · rw [drop_end (by omega)]
      simp
  rw [e]
  exact hQ
end
end K54
--@law law_k54_whole_things_as_texts h54.json
set_option Elab.async false
set_option linter.all false
set_option maxRecDepth 100000
set_option maxHeartbeats 4000000
namespace K54
open PySem PySem.Spec PyProof.Rows L2 KB
open SX (S)
local macro_rules | `(tactic| walk_at "s") => `(tactic| first
  | with_reducible refine r_seq ?_
  | with_reducible refine r_set ?_
  | ((with_reducible show tVar _ _ _ _); refine r_var rfl ?_)
  | with_reducible refine r_c ?_
  | with_reducible refine r_op ?_
  | with_reducible refine r_cb ?_
  | with_reducible refine r_cons ?_
  | with_reducible refine r_nil ?_
  | with_reducible refine r_test ?_
  | with_reducible refine r_if ?_
  | with_reducible refine r_I0 ?_
  | with_reducible refine r_eqS1 ?_
  | with_reducible refine r_neS1 ?_
  | with_reducible refine r_eqSL ?_
  | with_reducible refine r_neSL ?_
  | with_reducible refine r_eqI ?_
  | ((with_reducible show rEq _ _ _ _); refine r_eq ?_)
  | ((with_reducible show rNe _ _ _ _); refine r_ne ?_)
  | with_reducible refine r_bl ?_
  | with_reducible refine r_blV ?_
  | with_reducible refine r_intV ?_
  | with_reducible refine r_ret ?_
  | with_reducible refine r_next ?_
  | with_reducible refine r_callS ?_
  | with_reducible refine r_call ?_
  | with_reducible refine r_asg ?_
  | with_reducible refine r_drop ?_
  | with_reducible refine r_retN ?_
  | with_reducible refine r_un ?_
  | with_reducible refine r_U ?_
  | with_reducible refine r_tup ?_
  | with_reducible refine r_lst ?_
  | with_reducible refine r_andV ?_
  | with_reducible refine r_orV ?_
  | with_reducible refine r_notV ?_
  | with_reducible refine r_ifE ?_
  | with_reducible refine r_meth ?_
  | with_reducible refine r_make ?_
  | with_reducible refine r_fld ?_
  | with_reducible refine r_sl ?_
  | with_reducible refine r_nop ?_
  | with_reducible refine r_part ?_
  | with_reducible refine r_B ?_
  | with_reducible refine r_and ?_
  | with_reducible refine r_or ?_
  | with_reducible refine r_not ?_
  | with_reducible refine r_chain ?_
  | with_reducible refine r_bm0 ?_
  | with_reducible refine r_bm ?_
  | with_reducible refine r_m1 ?_
  | with_reducible refine r_gname ?_
  | with_reducible refine r_gnil ?_
  | with_reducible refine r_gcons ?_
  | with_reducible refine r_gsub ?_
  | with_reducible refine r_sfld ?_
  | with_reducible refine r_faug ?_
  | with_reducible refine r_rAdd ?_
  | with_reducible refine r_rSub ?_
  | with_reducible refine r_ilist ?_
  | with_reducible refine r_itup ?_
  | with_reducible refine r_irng1 ?_
  | with_reducible refine r_lc ?_
  | with_reducible refine r_for ?_
  | with_reducible refine r_istr ?_
  | with_reducible refine r_isN ?_
  | with_reducible refine r_isnN ?_
  | with_reducible refine r_abs ?_
  | with_reducible refine r_int1 ?_
  | with_reducible refine r_leS ?_
  | with_reducible refine r_brk ?_
  | with_reducible refine r_strV ?_
  | with_reducible refine iteT ?_
  | with_reducible refine iteF ?_
  | with_reducible refine itT ?_
  | with_reducible refine itF ?_
  | ((with_reducible show rLenS _ _ _); refine r_lenS (by omega) ?_)
  | ((with_reducible show rAddS _ _ _ _); refine r_addS (by first | omega | (simp only [List.length_append, List.length_cons, List.length_nil]; omega)) ?_)
  | with_reducible refine r_inSg ?_
  | with_reducible refine r_notInSg ?_
  | with_reducible refine r_strE ?_
  | with_reducible refine r_szle (by first | decide | (simp only [List.length_cons, List.length_nil]; omega)) ?_
  | with_reducible refine r_revS ?_
  | ((with_reducible show rIxL _ (.ref _) (.int _) _ _); apply r_ixL; (· walk_at "sq"); (· exact rfl))
  | ((with_reducible show rIxT _ (.ref _) (.int _) _ _); apply r_ixT; (· walk_at "sq"); (· exact rfl))
  | ((with_reducible show rLenSq _ [.ref _] _ _); first | (apply r_lenL; (· walk_at "sq")) | (apply r_lenT; (· walk_at "sq")))
  | ((with_reducible show rI _ _ (.int _) (.int _) _ _); refine r_I (by walk_at "ar") ?_)
  | with_reducible refine r_ct ?_)
local macro_rules | `(tactic| walk_at "sq") => `(tactic| first
  | assumption
  | exact SqL.of (by assumption)
  | exact SqT.of (by assumption)
  | exact SqL.of upd_same
  | exact SqT.of upd_same)
local macro_rules | `(tactic| walk_at "ar") => `(tactic| first
  | exact Or.inl ⟨by omega, by omega⟩
  | exact Or.inr ⟨by omega, by omega⟩
  | exact ⟨by omega, by omega⟩
  | exact ⟨by decide, by decide, by decide⟩
  | (show (0 : Int) < _; omega)
  | omega)
local macro_rules | `(tactic| walk_at "r") => `(tactic| repeat walk_at "s")

section
variable {P : Program} {w : World} {K : PySem.W.Frag} {mg : Str → Option Value} {base : Heap}
local macro_rules | `(tactic| walk_at "s") => `(tactic| first
  | with_reducible refine r_ft (by assumption) (by assumption) (by assumption) ?_
  | with_reducible refine r_fp (by assumption) (by assumption) (by assumption) ?_
  | with_reducible refine r_fl (by assumption) (by assumption) (by assumption) ?_
  | with_reducible refine r_mx (by assumption) (no_m (by decide) (by decide) (by decide)) ?_)
/-- the figures that are taken -/
def fig (cs : List Nat) : List Nat := match cs with
  | 48 :: _ => [48]
  | _ => Tx.digs 30 cs
theorem fig_zero (r : List Nat) : fig (48 :: r) = [48] := rfl
theorem fig_other (cs : List Nat) (h : ∀ r, cs ≠ 48 :: r) : fig cs = Tx.digs 30 cs := by
  unfold fig
  split
  · exact absurd rfl (h _)
  · rfl
theorem take1 {c : Nat} {l r : List Nat} {p : Nat} (h : l.drop p = c :: r) : (l.drop p).take 1 = [c] := by
  rw [h]
  rfl
def spFig (K : PySem.W.Frag) : Sp := fun vs H Q _ => ∃ (x dx : Addr) (l : List Nat) (p : Nat) (lv : Addr), vs = [.ref x] ∧ RO K H x dx l (p : Nat) lv ∧ l.length ≤ 100000 ∧ p ≤ l.length ∧ ∀ H', Xe1 x H H' → RO K H' x dx l ((p + (fig (l.drop p)).length : Nat) : Int) lv → Q (.str (SX.S (fig (l.drop p)))) H'
theorem m_Reader_figures (S : C54 K mg) : Met P w K mg base 2 (He.ga K "Reader") "figures" (spFig K) := by
  have m_Reader_sign := m_Reader_sign (P := P) (w := w) (base := base) S
  refine met_of S (k := 1) (q := "Reader.figures") (st := s_Reader_figures) (by simp [fn, d_Reader_figures]) (by decide +kernel) (by decide +kernel) sc_Reader_figures bd_Reader_figures (fun vs H Q E ⟨x, dx, l, p, lv, h, _⟩ => by rw [h] <;> rfl) fun f cdv A outer s H vs Q E tk px hr h => ?_
  obtain ⟨x, dx, l, p, lv, rfl, hx, hl, hp, hQ⟩ := h
  refine ⟨_, (pss_cons (ps_set (i := 1) sc_Reader_figures.nd rfl (by first | exact Or.inl rfl | exact Or.inr rfl) (pe_fld (pv 0) rfl))
      (pss_cons (ps_while (passes_of rfl) ((pw_and (pt_cmpR op_ne (pe_mt0 m_Reader_sign hr (by first | decide | omega) px (pv 0)) (pe_sl []) (nomark _)) (pw_and (pt_cmpR op_inSg (pe_mt0 m_Reader_sign hr (by first | decide | omega) px (pv 0)) (pe_ks (by rfl) (S.str "FIGURES" "0123456789") [48, 49, 50, 51, 52, 53, 54, 55, 56, 57]) rfl) (pw_and1 (pt_cmpR op_lt (pe_op op_sub (pe_fld (pv 0) rfl) (pv 1)) (pe_k (by rfl) (S.int "MOST_DIGITS" 30)) (nomark _)))))).pt (pss_cons (ps_fldaug (pv 0) pe_int in_add)
        (pss_one (ps_if (pt_cmpR op_eq (pe_ix ix_str (pe_fld (pv 0) rfl) (pv 1) (fun _ _ => rfl)) (pe_sl [48]) (nomark _)) (pss_one ps_break) pss_nil))))
      (pss_one (ps_ret (pe_slice sl_str (pe_fld (pv 0) rfl) (po_some (pv 1)) (po_some (pe_fld (pv 0) rfl))))))), ?_⟩
  try simp only [cxK]
  have hc := S.cls "Reader"
  have n1 := S.noat "Reader" "text"
  have n2 := S.noat "Reader" "place"
  walk_at "r"
  have hdl := (Tx.digs_le 30 (l.drop p))
  rw [List.length_drop] at hdl
  have hdt := digs_take 30 (l.drop p)
  have hda := digs_at 30 (l.drop p)
  have hfo := fig_other (l.drop p)
  generalize hds : Tx.digs 30 (l.drop p) = ds at hdl hdt hda hfo
  refine ⟨fun m σ H' => ∃ i : Nat, σ = [some (.ref x), some (.int (p : Nat))] ∧ RO K H' x dx l ((p + i : Nat) : Int) lv ∧ Xe1 x H H' ∧ i ≤ ds.length ∧ ((∃ r, l.drop p = 48 :: r) → i = 0) ∧ m = 40 - i, ⟨_, 0, rfl, hx, Xe1.refl, Nat.zero_le _, fun _ => rfl, rfl⟩, ?_⟩
  rintro m σ H1 ⟨i, rfl, hx1, y1, hi, hz, rfl⟩
  have hai := hda i hi
  have fin : ∀ (j : Nat) (H2 : Hp), RO K H2 x dx l ((p + j : Nat) : Int) lv → Xe1 x H H2 → j ≤ ds.length → fig (l.drop p) = ds.take j →
      tRet (tSl rSlS (tFld K (tVar 0) "text") (tPart (tVar 1)) (tPart (tFld K (tVar 0) "place"))) { nx := fun x H' => Q .non H', rt := Q } [some (.ref x), some (.int (p : Nat))] H2 := fun j H2 hx2 y2 hj e => by
    walk_at "r"
    refine r_slPQ (p := p) (q := p + j) (by omega) rfl rfl hp (by omega) ?_
    have e2 : (l.drop p).take (p + j - p) = fig (l.drop p) := by
      rw [e, hdt, List.take_take, Nat.min_eq_left hj, show p + j - p = j by omega]
    rw [e2]
    refine hQ H2 y2 ?_
    rw [e, List.length_take, Nat.min_eq_left hj]
    exact hx2
  have out : ¬ i < ds.length → fig (l.drop p) = ds.take i := fun h => by
    have e : i = ds.length := by omega
    by_cases h48 : ∃ r, l.drop p = 48 :: r
    · have e0 := hz h48
      obtain ⟨r, hr⟩ := h48
      have : 1 ≤ ds.length := by
        rw [← hds, hr]
        show 1 ≤ (if Tx.isDg 48 = true then 48 :: Tx.digs 29 r else []).length
        rw [if_pos (by decide)]
        simp
      omega
    · rw [hfo (fun r z => h48 ⟨r, z⟩), e, List.take_length]
  walk_at "r"
  refine ⟨x, dx, l, p + i, lv, rfl, hx1, hl, by omega, ?_⟩
  by_cases h1 : p + i < l.length
  · obtain ⟨c, hc1, hc2, hc3⟩ := drop_at h1
    rw [take1 hc3]
    walk_at "r"
    refine itn (fun _ => ?_) (fun z => by cases z)
    walk_at "r"
    refine ⟨x, dx, l, p + i, lv, rfl, hx1, hl, by omega, ?_⟩
    rw [take1 hc3]
    walk_at "r"
    rw [dg_mem]
    have hcd : (l.drop p)[i]? = some c := by rw [List.getElem?_drop]; exact hc1
    refine ite2 (fun h2 => ?_) (fun h2 => ?_)
    · walk_at "r"
      refine itd (fun h3 => ?_) (fun h3 => ?_)
      · have hlt : i < ds.length := hai.mpr ⟨by omega, c, hcd, h2⟩
        obtain ⟨c0, g1, g2, g3⟩ := drop_at (show p < l.length by omega)
        refine ⟨fun σ H' => ∃ j : Nat, σ = [some (.ref x), some (.int (p : Nat))] ∧ RO K H' x dx l ((p + j : Nat) : Int) lv ∧ Xe1 x H H' ∧ i < j ∧ j ≤ ds.length ∧ ((∃ r, l.drop p = 48 :: r) → j = 0), ?_, ?_⟩
        · rintro σ' H' ⟨j, e2, e3, e4, e5, e6, e7⟩
          exact ⟨40 - j, by omega, j, e2, e3, e4, e6, e7, rfl⟩
        · walk_at "r"
          refine r_adv hx1 hc n2 fun H2 hx2 y2 => ?_
          walk_at "r"
          refine r_ixS (by omega) g2 ?_
          walk_at "r"
          refine itd (fun h4 => ?_) (fun h4 => ?_)
          · subst h4
            have e0 : i = 0 := hz ⟨_, g3⟩
            subst e0
            refine r_brk ?_
            refine fin 1 H2 hx2 (y1.trans y2) (by omega) ?_
            rw [g3, fig_zero, hdt, List.take_take, g3, show min 1 ds.length = 1 by omega]
            rfl
          · walk_at "r"
            exact ⟨i + 1, rfl, hx2, y1.trans y2, by omega, by omega, fun ⟨r, z⟩ => by rw [g3] at z; exact absurd (List.cons.inj z).1 h4⟩
      · have hlt : ¬ i < ds.length := fun z => h3 (by have := (hai.mp z).1; omega)
        exact fin i H1 hx1 y1 hi (out hlt)
    · have hlt : ¬ i < ds.length := fun z => by
        obtain ⟨_, c', hc', hg'⟩ := hai.mp z
        rw [hcd] at hc'
        cases hc'
        exact h2 hg'
      exact fin i H1 hx1 y1 hi (out hlt)
  · have e : (l.drop (p + i)).take 1 = [] := by rw [drop_end (by omega)]; rfl
    have hlt : ¬ i < ds.length := fun z => by omega
    rw [e]
    walk_at "r"
    refine itn (fun z => absurd rfl z) (fun _ => ?_)
    exact fin i H1 hx1 y1 hi (out hlt)
end
end K54
--@law law_k54_whole_things_as_texts h54.json
set_option Elab.async false
set_option linter.all false
set_option maxRecDepth 100000
set_option maxHeartbeats 4000000
namespace K54
open PySem PySem.Spec PyProof.Rows L2 KB
open SX (S)
local macro_rules | `(tactic| walk_at "s") => `(tactic| first
  | with_reducible refine r_seq ?_
  | with_reducible refine r_set ?_
  | ((with_reducible show tVar _ _ _ _); refine r_var rfl ?_)
  | with_reducible refine r_c ?_
  | with_reducible refine r_op ?_
  | with_reducible refine r_cb ?_
  | with_reducible refine r_cons ?_
  | with_reducible refine r_nil ?_
  | with_reducible refine r_test ?_
  | with_reducible refine r_if ?_
  | with_reducible refine r_I0 ?_
  | with_reducible refine r_eqS1 ?_
  | with_reducible refine r_neS1 ?_
  | with_reducible refine r_eqSL ?_
  | with_reducible refine r_neSL ?_
  | with_reducible refine r_eqI ?_
  | ((with_reducible show rEq _ _ _ _); refine r_eq ?_)
  | ((with_reducible show rNe _ _ _ _); refine r_ne ?_)
  | with_reducible refine r_bl ?_
  | with_reducible refine r_blV ?_
  | with_reducible refine r_intV ?_
  | with_reducible refine r_ret ?_
  | with_reducible refine r_next ?_
  | with_reducible refine r_callS ?_
  | with_reducible refine r_call ?_
  | with_reducible refine r_asg ?_
  | with_reducible refine r_drop ?_
  | with_reducible refine r_retN ?_
  | with_reducible refine r_un ?_
  | with_reducible refine r_U ?_
  | with_reducible refine r_tup ?_
  | with_reducible refine r_lst ?_
  | with_reducible refine r_andV ?_
  | with_reducible refine r_orV ?_
  | with_reducible refine r_notV ?_
  | with_reducible refine r_ifE ?_
  | with_reducible refine r_meth ?_
  | with_reducible refine r_make ?_
  | with_reducible refine r_fld ?_
  | with_reducible refine r_sl ?_
  | with_reducible refine r_nop ?_
  | with_reducible refine r_part ?_
  | with_reducible refine r_B ?_
  | with_reducible refine r_and ?_
  | with_reducible refine r_or ?_
  | with_reducible refine r_not ?_
  | with_reducible refine r_chain ?_
  | with_reducible refine r_bm0 ?_
  | with_reducible refine r_bm ?_
  | with_reducible refine r_m1 ?_
  | with_reducible refine r_gname ?_
  | with_reducible refine r_gnil ?_
  | with_reducible refine r_gcons ?_
  | with_reducible refine r_gsub ?_
  | with_reducible refine r_sfld ?_
  | with_reducible refine r_faug ?_
  | with_reducible refine r_rAdd ?_
  | with_reducible refine r_rSub ?_
  | with_reducible refine r_ilist ?_
  | with_reducible refine r_itup ?_
  | with_reducible refine r_irng1 ?_
  | with_reducible refine r_lc ?_
  | with_reducible refine r_for ?_
  | with_reducible refine r_istr ?_
  | with_reducible refine r_isN ?_
  | with_reducible refine r_isnN ?_
  | with_reducible refine r_abs ?_
  | with_reducible refine r_int1 ?_
  | with_reducible refine r_leS ?_
  | with_reducible refine r_brk ?_
  | with_reducible refine r_strV ?_
  | with_reducible refine iteT ?_
  | with_reducible refine iteF ?_
  | with_reducible refine itT ?_
  | with_reducible refine itF ?_
  | ((with_reducible show rLenS _ _ _); refine r_lenS (by omega) ?_)
  | ((with_reducible show rAddS _ _ _ _); refine r_addS (by first | omega | (simp only [List.length_append, List.length_cons, List.length_nil]; omega)) ?_)
  | with_reducible refine r_inSg ?_
  | with_reducible refine r_notInSg ?_
  | with_reducible refine r_strE ?_
  | with_reducible refine r_szle (by first | decide | (simp only [List.length_cons, List.length_nil]; omega)) ?_
  | with_reducible refine r_revS ?_
  | ((with_reducible show rIxL _ (.ref _) (.int _) _ _); apply r_ixL; (· walk_at "sq"); (· exact rfl))
  | ((with_reducible show rIxT _ (.ref _) (.int _) _ _); apply r_ixT; (· walk_at "sq"); (· exact rfl))
  | ((with_reducible show rLenSq _ [.ref _] _ _); first | (apply r_lenL; (· walk_at "sq")) | (apply r_lenT; (· walk_at "sq")))
  | ((with_reducible show rI _ _ (.int _) (.int _) _ _); refine r_I (by walk_at "ar") ?_)
  | with_reducible refine r_ct ?_)
local macro_rules | `(tactic| walk_at "sq") => `(tactic| first
  | assumption
  | exact SqL.of (by assumption)
  | exact SqT.of (by assumption)
  | exact SqL.of upd_same
  | exact SqT.of upd_same)
local macro_rules | `(tactic| walk_at "ar") => `(tactic| first
  | exact Or.inl ⟨by omega, by omega⟩
  | exact Or.inr ⟨by omega, by omega⟩
  | exact ⟨by omega, by omega⟩
  | exact ⟨by decide, by decide, by decide⟩
  | (show (0 : Int) < _; omega)
  | omega)
local macro_rules | `(tactic| walk_at "r") => `(tactic| repeat walk_at "s")

section
variable {P : Program} {w : World} {K : PySem.W.Frag} {mg : Str → Option Value} {base : Heap}
local macro_rules | `(tactic| walk_at "s") => `(tactic| first
  | with_reducible refine r_ft (by assumption) (by assumption) (by assumption) ?_
  | with_reducible refine r_fp (by assumption) (by assumption) (by assumption) ?_
  | with_reducible refine r_fl (by assumption) (by assumption) (by assumption) ?_
  | with_reducible refine r_mx (by assumption) (no_m (by decide) (by decide) (by decide)) ?_)
theorem fig_cases (cs : List Nat) : (∃ r, cs = 48 :: r ∧ fig cs = [48]) ∨ ((∀ r, cs ≠ 48 :: r) ∧ fig cs = Tx.digs 30 cs) := by
  by_cases h : ∃ r, cs = 48 :: r
  · obtain ⟨r, rfl⟩ := h
    exact .inl ⟨r, rfl, rfl⟩
  · exact .inr ⟨fun r z => h ⟨r, z⟩, fig_other _ fun r z => h ⟨r, z⟩⟩
theorem fig_nil {cs : List Nat} (h : fig cs = []) : (∀ r, cs ≠ 48 :: r) ∧ Tx.digs 30 cs = [] := by
  rcases fig_cases cs with ⟨r, _, e⟩ | ⟨h1, e⟩
  · rw [e] at h
    cases h
  · exact ⟨h1, e ▸ h⟩
theorem fig_dg (cs : List Nat) : NumText.AllDigits (fig cs) := by
  rcases fig_cases cs with ⟨r, _, e⟩ | ⟨h1, e⟩
  · rw [e]
    intro c hc
    have : c = 48 := by simpa using hc
    omega
  · rw [e]
    exact Tx.digs_dg 30 cs
theorem fig_len (cs : List Nat) : (fig cs).length ≤ 30 := by
  rcases fig_cases cs with ⟨r, _, e⟩ | ⟨h1, e⟩
  · rw [e]
    decide
  · rw [e]
    exact (Tx.digs_le 30 cs).2
theorem fig_val (neg : Bool) (cs : List Nat) (f : Nat) (h : fig cs ≠ []) (hn : neg = true → ∀ r, cs ≠ 48 :: r) :
    ∃ r, Tx.rdU neg cs f = .ok (.int (if neg = true then -((NumText.digitsVal (fig cs) : Nat) : Int) else ((NumText.digitsVal (fig cs) : Nat) : Int))) r (f + (fig cs).length) := by
  rcases fig_cases cs with ⟨r, e1, e⟩ | ⟨h1, e⟩
  · cases neg with
    | true => exact absurd e1 (hn rfl r)
    | false =>
      refine ⟨r, ?_⟩
      rw [e, e1]
      rfl
  · rw [e] at h ⊢
    exact ⟨Tx.afterD cs, by rw [rdU_other _ _ _ h1, if_neg h]⟩
theorem inVL (a : List Nat) : inV (.str (SX.S a)) [.str (SX.S [39]), .str (SX.S [126])] = decide (a = [39] ∨ a = [126]) := by
  have e : ∀ x y : List Nat, eqV (.str (SX.S x)) (.str (SX.S y)) = decide (x = y) := fun x y => by
    show decide (SX.S x = SX.S y) = _
    exact decide_eq_decide.mpr ⟨fun h => S_inj h, fun h => by rw [h]⟩
  show (eqV (.str (SX.S [39])) (.str (SX.S a)) || (eqV (.str (SX.S [126])) (.str (SX.S a)) || false)) = _
  rw [e, e]
  simp [eq_comm]
theorem Xe1.own {a D : Addr} {o : HO} {H H' : Hp} (h : Xe1 a H H') (hD : H D = none) : Xe1 a H (L2.upd H' D o) := fun b u n e => by
  rw [upd_ne (ne_of_none e hD)]
  exact h b u n e
def BadE (K : PySem.W.Frag) (x : Addr) (H : Hp) (E : XK) (q : Nat) : Prop := ∀ (d : Addr) (H' : Hp), Xe1 x H H' → H' d = some (.xd [("place", .int (q : Nat))]) → E (.ref (aBad K)) (some d) H'
def spRes (K : PySem.W.Frag) (Rf : List Nat → Nat → Tx.Res) : Sp := fun vs H Q E => ∃ (x dx : Addr) (l : List Nat) (p : Nat) (lv : Addr), vs = [.ref x] ∧ RO K H x dx l (p : Nat) lv ∧ l.length ≤ 100000 ∧ p ≤ l.length ∧
  (∀ d r q v H', Rf (l.drop p) p = .ok d r q → Xe1 x H H' → RO K H' x dx l (q : Nat) lv → TD H' v d → Q v H') ∧ (∀ q, Rf (l.drop p) p = .bad q → BadE K x H E q)
theorem m_Reader_integer (S : C54 K mg) (B : PySem.BadX.BadTxt P K mg (aBad K) (He.fAd K pB)) : Met P w K mg base 6 (He.ga K "Reader") "integer" (spRes K Tx.rdI) := by
  have m_Reader_sign := m_Reader_sign (P := P) (w := w) (base := base) S
  have m_Reader_figures := m_Reader_figures (P := P) (w := w) (base := base) S
  have m_Reader_wrong := m_Reader_wrong (P := P) (w := w) (base := base) S B
  refine met_of S (k := 5) (q := "Reader.integer") (st := s_Reader_integer) (by simp [fn, d_Reader_integer]) (by decide +kernel) (by decide +kernel) sc_Reader_integer bd_Reader_integer (fun vs H Q E ⟨x, dx, l, p, lv, h, _⟩ => by rw [h] <;> rfl) fun f cdv A outer s H vs Q E tk px hr h => ?_
  obtain ⟨x, dx, l, p, lv, rfl, hx, hl, hp, hQ, hE⟩ := h
  refine ⟨_, (pss_cons (ps_set (i := 1) sc_Reader_integer.nd rfl (by first | exact Or.inl rfl | exact Or.inr rfl) (pe_sl []))
      (Evl.pss_cut (ps_if (pt_cmpR op_eq (pe_mt0 m_Reader_sign hr (by first | decide | omega) px (pv 0)) (pe_sl [45]) (nomark _)) (pss_cons (ps_set (i := 1) sc_Reader_integer.nd rfl (by first | exact Or.inl rfl | exact Or.inr rfl) (pe_sl [45]))
        (pss_cons (ps_fldaug (pv 0) pe_int in_add)
        (pss_one (ps_if (pt_cmpR op_eq (pe_mt0 m_Reader_sign hr (by first | decide | omega) px (pv 0)) (pe_sl [48]) (nomark _)) (pss_one (ps_expr (pe_mt0 m_Reader_wrong hr (by first | decide | omega) px (pv 0)))) pss_nil)))) pss_nil)
      (pss_cons (ps_set (i := 2) sc_Reader_integer.nd rfl (by first | exact Or.inl rfl | exact Or.inr rfl) (pe_mt0 m_Reader_figures hr (by first | decide | omega) px (pv 0)))
      (pss_cons (ps_if (pt_cmpR op_eq (pv 2) (pe_sl []) (nomark _)) (pss_one (ps_expr (pe_mt0 m_Reader_wrong hr (by first | decide | omega) px (pv 0)))) pss_nil)
      (pss_one (ps_ret (pe_callTy call_intS (by rfl) (S.free "int") (by decide +kernel) (pa_cons (pe_op op_addS (pv 1) (pv 2)) pa_nil)))))))), ?_⟩
  try simp only [cxK]
  have hc := S.cls "Reader"
  have n1 := S.noat "Reader" "text"
  have n2 := S.noat "Reader" "place"
  generalize hR0 : Tx.rdI (l.drop p) p = R at hQ hE
  have raise : ∀ (q : Nat) (H1 : Hp) (Q1 : VK), R = .bad q → RO K H1 x dx l (q : Nat) lv → Xe1 x H H1 → spWrong K [.ref x] H1 Q1 E := fun q H1 Q1 hb h1 y1 =>
    ⟨x, dx, l, q, lv, rfl, h1, fun d H' x' e => hE q hb d H' (y1.trans (Ex.xe x')) e⟩
  walk_at "r"
  refine ⟨fun σ H' => ∃ (neg : Bool) (f : Nat), σ = [some (.ref x), some (.str (SX.S (if neg = true then [45] else []))), none] ∧ RO K H' x dx l (f : Nat) lv ∧ Xe1 x H H' ∧ f ≤ l.length ∧ Tx.rdU neg (l.drop f) f = R ∧ (neg = true → ∀ r, l.drop f ≠ 48 :: r), ?_, ?_⟩
  · walk_at "r"
    refine ⟨x, dx, l, p, lv, rfl, hx, hl, hp, ?_⟩
    by_cases h1 : p < l.length
    · obtain ⟨c, hc1, hc2, hc3⟩ := drop_at h1
      rw [take1 hc3]
      walk_at "r"
      refine itd (fun h2 => ?_) (fun h2 => ?_)
      · subst h2
        rw [hc3] at hR0
        have hR1 : Tx.rdU true (l.drop (p + 1)) (p + 1) = R := hR0
        walk_at "r"
        refine r_adv hx hc n2 fun H1 hx1 y1 => ?_
        walk_at "r"
        refine ⟨x, dx, l, p + 1, lv, rfl, hx1, hl, by omega, ?_⟩
        by_cases h3 : p + 1 < l.length
        · obtain ⟨c2, hd1, hd2, hd3⟩ := drop_at h3
          rw [take1 hd3]
          walk_at "r"
          refine itd (fun h4 => ?_) (fun h4 => ?_)
          · subst h4
            rw [hd3, rdU_zero, if_pos rfl] at hR1
            walk_at "r"
            exact raise (p + 1) H1 _ hR1.symm hx1 y1
          · walk_at "r"
            exact ⟨true, p + 1, rfl, hx1, y1, by omega, hR1, fun _ r z => h4 (by rw [hd3] at z; exact (List.cons.inj z).1)⟩
        · rw [show (l.drop (p + 1)).take 1 = [] by rw [drop_end (by omega)]; rfl]
          walk_at "r"
          refine itd (fun h4 => by cases h4) (fun h4 => ?_)
          walk_at "r"
          exact ⟨true, p + 1, rfl, hx1, y1, by omega, hR1, fun _ r z => by rw [drop_end (by omega)] at z; cases z⟩
      · walk_at "r"
        refine ⟨false, p, rfl, hx, Xe1.refl, hp, ?_, fun z => by cases z⟩
        rw [← rdI_pos _ _ (fun r z => h2 (by rw [hc3] at z; exact (List.cons.inj z).1))]
        exact hR0
    · rw [show (l.drop p).take 1 = [] by rw [drop_end (by omega)]; rfl]
      walk_at "r"
      refine itd (fun h4 => by cases h4) (fun h4 => ?_)
      walk_at "r"
      refine ⟨false, p, rfl, hx, Xe1.refl, hp, ?_, fun z => by cases z⟩
      rw [← rdI_pos _ _ (fun r z => by rw [drop_end (by omega)] at z; cases z)]
      exact hR0
  · rintro σ H1 ⟨neg, f, rfl, hx1, y1, hf, hR, hneg⟩
    walk_at "r"
    refine ⟨x, dx, l, f, lv, rfl, hx1, hl, hf, fun H2 y2 hx2 => ?_⟩
    walk_at "r"
    refine itd (fun h1 => ?_) (fun h1 => ?_)
    · walk_at "r"
      obtain ⟨e1, e2⟩ := fig_nil h1
      rw [rdU_other _ _ _ e1, if_pos e2] at hR
      rw [h1] at hx2
      exact raise f H2 _ hR.symm hx2 (y1.trans y2)
    · obtain ⟨r, hr⟩ := fig_val neg (l.drop f) f h1 hneg
      have hl30 := fig_len (l.drop f)
      have hnl : (if neg = true then [45] else ([] : List Nat)).length ≤ 1 := by split <;> simp
      walk_at "r"
      refine r_intS (int_digs (fig_dg _) h1 (by omega) neg) (by rw [List.length_append]; omega) ?_
      rw [hr] at hR
      exact hQ _ _ _ _ _ hR.symm (y1.trans y2) hx2 (.int _)
end
end K54
--@law law_k54_whole_things_as_texts h54.json
set_option Elab.async false
set_option linter.all false
set_option maxRecDepth 100000
set_option maxHeartbeats 4000000
namespace K54
open PySem PySem.Spec PyProof.Rows L2 KB
open SX (S)
local macro_rules | `(tactic| walk_at "s") => `(tactic| first
  | with_reducible refine r_seq ?_
  | with_reducible refine r_set ?_
  | ((with_reducible show tVar _ _ _ _); refine r_var rfl ?_)
  | with_reducible refine r_c ?_
  | with_reducible refine r_op ?_
  | with_reducible refine r_cb ?_
  | with_reducible refine r_cons ?_
  | with_reducible refine r_nil ?_
  | with_reducible refine r_test ?_
  | with_reducible refine r_if ?_
  | with_reducible refine r_I0 ?_
  | with_reducible refine r_eqS1 ?_
  | with_reducible refine r_neS1 ?_
  | with_reducible refine r_eqSL ?_
  | with_reducible refine r_neSL ?_
  | with_reducible refine r_eqI ?_
  | ((with_reducible show rEq _ _ _ _); refine r_eq ?_)
  | ((with_reducible show rNe _ _ _ _); refine r_ne ?_)
  | with_reducible refine r_bl ?_
  | with_reducible refine r_blV ?_
  | with_reducible refine r_intV ?_
  | with_reducible refine r_ret ?_
  | with_reducible refine r_next ?_
  | with_reducible refine r_callS ?_
  | with_reducible refine r_call ?_
  | with_reducible refine r_asg ?_
  | with_reducible refine r_drop ?_
  | with_reducible refine r_retN ?_
  | with_reducible refine r_un ?_
  | with_reducible refine r_U ?_
  | with_reducible refine r_tup ?_
  | with_reducible refine r_lst ?_
  | with_reducible refine r_andV ?_
  | with_reducible refine r_orV ?_
  | with_reducible refine r_notV ?_
  | with_reducible refine r_ifE ?_
  | with_reducible refine r_meth ?_
  | with_reducible refine r_make ?_
  | with_reducible refine r_fld ?_
  | with_reducible refine r_sl ?_
  | with_reducible refine r_nop ?_
  | with_reducible refine r_part ?_
  | with_reducible refine r_B ?_
  | with_reducible refine r_and ?_
  | with_reducible refine r_or ?_
  | with_reducible refine r_not ?_
  | with_reducible refine r_chain ?_
  | with_reducible refine r_bm0 ?_
  | with_reducible refine r_bm ?_
  | with_reducible refine r_m1 ?_
  | with_reducible refine r_gname ?_
  | with_reducible refine r_gnil ?_
  | with_reducible refine r_gcons ?_
  | with_reducible refine r_gsub ?_
  | with_reducible refine r_sfld ?_
  | with_reducible refine r_faug ?_
  | with_reducible refine r_rAdd ?_
  | with_reducible refine r_rSub ?_
  | with_reducible refine r_ilist ?_
  | with_reducible refine r_itup ?_
  | with_reducible refine r_irng1 ?_
  | with_reducible refine r_lc ?_
  | with_reducible refine r_for ?_
  | with_reducible refine r_istr ?_
  | with_reducible refine r_isN ?_
  | with_reducible refine r_isnN ?_
  | with_reducible refine r_abs ?_
  | with_reducible refine r_int1 ?_
  | with_reducible refine r_leS ?_
  | with_reducible refine r_brk ?_
  | with_reducible refine r_strV ?_
  | with_reducible refine iteT ?_
  | with_reducible refine iteF ?_
  | with_reducible refine itT ?_
  | with_reducible refine itF ?_
  | ((with_reducible show rLenS _ _ _); refine r_lenS (by omega) ?_)
  | ((with_reducible show rAddS _ _ _ _); refine r_addS (by first | omega | (simp only [List.length_append, List.length_cons, List.length_nil]; omega)) ?_)
  | with_reducible refine r_inSg ?_
  | with_reducible refine r_notInSg ?_
  | with_reducible refine r_strE ?_
  | with_reducible refine r_szle (by first | decide | (simp only [List.length_cons, List.length_nil]; omega)) ?_
  | with_reducible refine r_revS ?_
  | ((with_reducible show rIxL _ (.ref _) (.int _) _ _); apply r_ixL; (· walk_at "sq"); (· exact rfl))
  | ((with_reducible show rIxT _ (.ref _) (.int _) _ _); apply r_ixT; (· walk_at "sq"); (· exact rfl))
  | ((with_reducible show rLenSq _ [.ref _] _ _); first | (apply r_lenL; (· walk_at "sq")) | (apply r_lenT; (· walk_at "sq")))
  | ((with_reducible show rI _ _ (.int _) (.int _) _ _); refine r_I (by walk_at "ar") ?_)
  | with_reducible refine r_ct ?_)
local macro_rules | `(tactic| walk_at "sq") => `(tactic| first
  | assumption
  | exact SqL.of (by assumption)
  | exact SqT.of (by assumption)
  | exact SqL.of upd_same
  | exact SqT.of upd_same)
local macro_rules | `(tactic| walk_at "ar") => `(tactic| first
  | exact Or.inl ⟨by omega, by omega⟩
  | exact Or.inr ⟨by omega, by omega⟩
  | exact ⟨by omega, by omega⟩
  | exact ⟨by decide, by decide, by decide⟩
  | (show (0 : Int) < _; omega)
  | omega)
local macro_rules | `(tactic| walk_at "r") => `(tactic| repeat walk_at "s")

section
variable {P : Program} {w : World} {K : PySem.W.Frag} {mg : Str → Option Value} {base : Heap}
local macro_rules | `(tactic| walk_at "s") => `(tactic| first
  | with_reducible refine r_ft (by assumption) (by assumption) (by assumption) ?_
  | with_reducible refine r_fp (by assumption) (by assumption) (by assumption) ?_
  | with_reducible refine r_fl (by assumption) (by assumption) (by assumption) ?_
  | with_reducible refine r_mx (by assumption) (no_m (by decide) (by decide) (by decide)) ?_)
theorem sum1 (l : List Nat) : ((l.map fun ch => [ch]).map (·.length)).sum = l.length := by
  induction l with
  | nil => rfl
  | cons ch l ih => simp only [List.map_cons, List.sum_cons, List.length_cons, List.length_nil] at ih ⊢; omega
theorem flat1 (l : List Nat) : (l.map fun ch => [ch]).flatten = l := by
  induction l with
  | nil => rfl
  | cons ch l ih => simp only [List.map_cons, List.flatten_cons, ih]; rfl
theorem m_Reader_string (S : C54 K mg) (B : PySem.BadX.BadTxt P K mg (aBad K) (He.fAd K pB)) : Met P w K mg base 6 (He.ga K "Reader") "string" (spRes K fun cs p => Tx.rdS cs p []) := by
  have m_Reader_sign := m_Reader_sign (P := P) (w := w) (base := base) S
  have c_is_sign := c_is_sign (P := P) (w := w) (base := base) S
  have m_Reader_wrong := m_Reader_wrong (P := P) (w := w) (base := base) S B
  refine met_of S (k := 5) (q := "Reader.string") (st := s_Reader_string) (by simp [fn, d_Reader_string]) (by decide +kernel) (by decide +kernel) sc_Reader_string bd_Reader_string (fun vs H Q E ⟨x, dx, l, p, lv, h, _⟩ => by rw [h] <;> rfl) fun f cdv A outer s H vs Q E tk px hr h => ?_
  obtain ⟨x, dx, l, p, lv, rfl, hx, hl, hp, hQ, hE⟩ := h
  refine ⟨_, (pss_cons (ps_set (i := 1) sc_Reader_string.nd rfl (by first | exact Or.inl rfl | exact Or.inr rfl) (pe_lst pa_nil))
      (pss_cons (ps_while (passes_of rfl) (pt_cmpR op_ne (pe_mt0 m_Reader_sign hr (by first | decide | omega) px (pv 0)) (pe_ks (by rfl) (S.str "QUOTE" "'") [39]) (nomark _)) (pss_cons (ps_if (pt_cmpR op_eq (pe_mt0 m_Reader_sign hr (by first | decide | omega) px (pv 0)) (pe_ks (by rfl) (S.str "ESCAPE" "~") [126]) (nomark _)) (pss_cons (ps_fldaug (pv 0) pe_int in_add)
          (pss_one (ps_if (pt_cmpR op_notIn_seq (pe_mt0 m_Reader_sign hr (by first | decide | omega) px (pv 0)) (pe_tup (pa_cons (pe_ks (by rfl) (S.str "QUOTE" "'") [39]) (pa_cons (pe_ks (by rfl) (S.str "ESCAPE" "~") [126]) pa_nil))) rfl) (pss_one (ps_expr (pe_mt0 m_Reader_wrong hr (by first | decide | omega) px (pv 0)))) pss_nil))) pss_nil)
        (pss_cons (ps_if ((pw_or (pt_cmpR op_eq (pe_mt0 m_Reader_sign hr (by first | decide | omega) px (pv 0)) (pe_sl []) (nomark _)) (pw_or1 (pt_not (pt_val (pe_cS c_is_sign hr (by first | decide | omega) tk (pa_cons (pe_mt0 m_Reader_sign hr (by first | decide | omega) px (pv 0)) pa_nil))))))).pt (pss_one (ps_expr (pe_mt0 m_Reader_wrong hr (by first | decide | omega) px (pv 0)))) pss_nil)
        (pss_cons (ps_expr (pe_bm PySem.F.plainAttrs_list PySem.F.slot_list_append PySem.F.type_list_append mt_append (pv 1) (pa_cons (pe_mt0 m_Reader_sign hr (by first | decide | omega) px (pv 0)) pa_nil)))
        (pss_one (ps_fldaug (pv 0) pe_int in_add))))))
      (pss_cons (ps_fldaug (pv 0) pe_int in_add)
      (pss_one (ps_ret (pe_joinS (pe_sl []) (pv 1))))))), ?_⟩
  try simp only [cxK]
  have hc := S.cls "Reader"
  have n1 := S.noat "Reader" "text"
  have n2 := S.noat "Reader" "place"
  dsimp only at hQ hE
  generalize hR0 : Tx.rdS (l.drop p) p [] = R at hQ hE
  have raise : ∀ (q : Nat) (H1 : Hp) (Q1 : VK), R = .bad q → RO K H1 x dx l (q : Nat) lv → Xe1 x H H1 → spWrong K [.ref x] H1 Q1 E := fun q H1 Q1 hb h1 y1 =>
    ⟨x, dx, l, q, lv, rfl, h1, fun d H' x' e => hE q hb d H' (y1.trans (Ex.xe x')) e⟩
  walk_at "r"
  intro fl hfl
  have hflx : fl ≠ x := fun z => by rw [z, hx] at hfl; cases hfl
  generalize hU : L2.upd H fl _ = H1
  have x1 : Ex H H1 := hU ▸ Evl.Ex.new hfl
  have e1 : H1 fl = some (.lst []) := hU ▸ upd_same
  walk_at "r"
  refine ⟨fun m σ H' => ∃ (p' : Nat) (acc : List Nat), σ = [some (.ref x), some (.ref fl)] ∧ RO K H' x dx l (p' : Nat) lv ∧ Xe1 x H H' ∧ H' fl = some (.lst (acc.map fun c => V.str (SX.S [c]))) ∧ p' ≤ l.length ∧ acc.length ≤ p' ∧ Tx.rdS (l.drop p') p' acc = R ∧ m = l.length + 1 - p', ⟨_, p, [], rfl, x1 _ _ hx, Ex.xe x1, e1, hp, by simp, hR0, rfl⟩, ?_⟩
  rintro m σ H2 ⟨p', acc, rfl, hx2, y2, e2, hp', hac, hR, rfl⟩
  walk_at "r"
  refine ⟨x, dx, l, p', lv, rfl, hx2, hl, hp', ?_⟩
  by_cases h1 : p' < l.length
  · obtain ⟨c, hc1, hc2, hc3⟩ := drop_at h1
    rw [take1 hc3]
    rw [hc3] at hR
    unfold Tx.rdS at hR
    walk_at "r"
    refine itn (fun h2 => ?_) (fun h2 => ?_)
    · rw [if_neg h2] at hR
      refine ⟨fun σ H' => ∃ (p2 : Nat) (acc : List Nat), σ = [some (.ref x), some (.ref fl)] ∧ RO K H' x dx l (p2 : Nat) lv ∧ Xe1 x H H' ∧ H' fl = some (.lst (acc.map fun c => V.str (SX.S [c]))) ∧ p' < p2 ∧ p2 ≤ l.length ∧ acc.length ≤ p2 ∧ Tx.rdS (l.drop p2) p2 acc = R, ?_, ?_⟩
      · rintro σ' H' ⟨p2, acc, a1, a2, a3, a4, a5, a6, a7, a8⟩
        exact ⟨l.length + 1 - p2, by omega, p2, acc, a1, a2, a3, a4, a6, a7, a8, rfl⟩
      · walk_at "r"
        refine ⟨x, dx, l, p', lv, rfl, hx2, hl, hp', ?_⟩
        rw [take1 hc3]
        walk_at "r"
        refine itd (fun h3 => ?_) (fun h3 => ?_)
        · subst h3
          rw [if_neg (by decide), if_pos rfl] at hR
          walk_at "r"
          refine r_adv hx2 hc n2 fun H3 hx3 y3 => ?_
          walk_at "r"
          refine ⟨x, dx, l, p' + 1, lv, rfl, hx3, hl, by omega, ?_⟩
          walk_at "r"
          intro q hq
          generalize hU4 : L2.upd H3 q _ = H4
          have x4 : Ex H3 H4 := hU4 ▸ Evl.Ex.new hq
          have e4 : H4 q = some (.tup [V.str (SX.S [39]), V.str (SX.S [126])]) := hU4 ▸ upd_same
          have hx4 : RO K H4 x dx l ((p' + 1 : Nat) : Int) lv := x4 _ _ hx3
          have y4 : Xe1 x H H4 := (y2.trans y3).trans (Ex.xe x4)
          have e5 : H4 fl = some (.lst (acc.map fun c => V.str (SX.S [c]))) := x4 _ _ (y3 _ _ hflx e2)
          refine ⟨q, _, rfl, .inr (SqT.of e4), rfl, rfl, ?_⟩
          rw [if_pos rfl, inVL]
          by_cases h5 : p' + 1 < l.length
          · obtain ⟨c2, hd1, hd2, hd3⟩ := drop_at h5
            rw [take1 hd3]
            rw [hd3] at hR
            dsimp only at hR
            walk_at "r"
            refine itn (fun h6 => ?_) (fun h6 => ?_)
            · rw [if_neg (by simpa using h6)] at hR
              walk_at "r"
              exact raise (p' + 1) H4 _ hR.symm hx4 y4
            · have h6 : c2 = 39 ∨ c2 = 126 := by simpa using h6
              rw [if_pos h6] at hR
              walk_at "r"
              refine ⟨x, dx, l, p' + 1, lv, rfl, hx4, hl, by omega, ?_⟩
              rw [take1 hd3]
              walk_at "r"
              refine itd (fun z => by cases z) (fun _ => ?_)
              walk_at "r"
              refine ⟨x, dx, l, p' + 1, lv, rfl, hx4, hl, by omega, ?_⟩
              rw [take1 hd3]
              walk_at "r"
              refine ⟨c2, rfl, ?_⟩
              have hsg : Tx.isSg c2 = true := by rcases h6 with rfl | rfl <;> decide
              rw [hsg]
              walk_at "r"
              refine ⟨.inl ⟨rfl, _, SqL.of e5⟩, ?_⟩
              walk_at "r"
              refine ⟨x, dx, l, p' + 1, lv, rfl, hx4, hl, by omega, ?_⟩
              rw [take1 hd3]
              walk_at "r"
              refine ⟨fl, _, _, rfl, rfl, e5, by rw [List.length_map, sizeLine_eq]; omega, ?_⟩
              generalize hU6 : L2.upd H4 fl _ = H6
              have e6 : H6 fl = some (.lst ((acc ++ [c2]).map fun c => V.str (SX.S [c]))) := by
                rw [← hU6, upd_same, List.map_append]
                rfl
              have hx6 : RO K H6 x dx l ((p' + 1 : Nat) : Int) lv := by
                rw [← hU6]
                show L2.upd _ fl _ x = _
                rw [upd_ne (Ne.symm hflx)]
                exact hx4
              have y6 : Xe1 x H H6 := hU6 ▸ Xe1.own y4 hfl
              walk_at "r"
              refine r_adv hx6 hc n2 fun H7 hx7 y7 => ?_
              walk_at "r"
              exact ⟨p' + 1 + 1, acc ++ [c2], rfl, hx7, y6.trans y7, y7 _ _ hflx e6, by omega, by omega, by simp; omega, hR⟩
          · rw [drop_end (by omega)] at hR
            rw [show (l.drop (p' + 1)).take 1 = [] by rw [drop_end (by omega)]; rfl]
            walk_at "r"
            refine itn (fun h6 => ?_) (fun h6 => by simp at h6)
            walk_at "r"
            exact raise (p' + 1) H4 _ hR.symm hx4 y4
        · walk_at "r"
          refine ⟨x, dx, l, p', lv, rfl, hx2, hl, hp', ?_⟩
          rw [take1 hc3]
          walk_at "r"
          refine itd (fun z => by cases z) (fun _ => ?_)
          walk_at "r"
          refine ⟨x, dx, l, p', lv, rfl, hx2, hl, hp', ?_⟩
          rw [take1 hc3]
          walk_at "r"
          refine ⟨c, rfl, ?_⟩
          walk_at "r"
          by_cases hsg : Tx.isSg c = true
          · rw [hsg] at hR ⊢
            rw [if_neg (by decide), if_neg h3] at hR
            walk_at "r"
            refine ⟨.inl ⟨rfl, _, SqL.of e2⟩, ?_⟩
            walk_at "r"
            refine ⟨x, dx, l, p', lv, rfl, hx2, hl, by omega, ?_⟩
            rw [take1 hc3]
            walk_at "r"
            refine ⟨fl, _, _, rfl, rfl, e2, by rw [List.length_map, sizeLine_eq]; omega, ?_⟩
            generalize hU6 : L2.upd H2 fl _ = H6
            have e6 : H6 fl = some (.lst ((acc ++ [c]).map fun c => V.str (SX.S [c]))) := by
              rw [← hU6, upd_same, List.map_append]
              rfl
            have hx6 : RO K H6 x dx l ((p' : Nat) : Int) lv := by
              rw [← hU6]
              show L2.upd _ fl _ x = _
              rw [upd_ne (Ne.symm hflx)]
              exact hx2
            have y6 : Xe1 x H H6 := hU6 ▸ Xe1.own y2 hfl
            walk_at "r"
            refine r_adv hx6 hc n2 fun H7 hx7 y7 => ?_
            walk_at "r"
            exact ⟨p' + 1, acc ++ [c], rfl, hx7, y6.trans y7, y7 _ _ hflx e6, by omega, by omega, by simp; omega, hR⟩
          · have hsg : Tx.isSg c = false := by simpa using hsg
            rw [hsg] at hR ⊢
            rw [if_pos rfl] at hR
            walk_at "r"
            exact raise p' H2 _ hR.symm hx2 y2
    · subst h2
      rw [if_pos rfl] at hR
      walk_at "r"
      refine r_adv hx2 hc n2 fun H3 hx3 y3 => ?_
      walk_at "r"
      have e3 : SqL K H3 fl ((acc.map fun ch => [ch]).map fun l => V.str (SX.S l)) := SqL.of (by rw [y3 _ _ hflx e2, List.map_map]; rfl)
      refine r_join e3 ?_ ?_
      · rw [sum1, List.length_map]
        simp only [List.length_nil]
        omega
      · rw [joinL_nil, flat1]
        exact hQ _ _ _ _ _ hR.symm (y2.trans y3) hx3 (.str acc)
  · rw [show (l.drop p').take 1 = [] by rw [drop_end (by omega)]; rfl]
    rw [drop_end (by omega)] at hR
    walk_at "r"
    refine itn (fun h2 => ?_) (fun h2 => by cases h2)
    refine ⟨fun _ _ => False, fun _ _ z => z.elim, ?_⟩
    walk_at "r"
    refine ⟨x, dx, l, p', lv, rfl, hx2, hl, hp', ?_⟩
    rw [show (l.drop p').take 1 = [] by rw [drop_end (by omega)]; rfl]
    walk_at "r"
    refine itd (fun z => by cases z) (fun _ => ?_)
    walk_at "r"
    refine ⟨x, dx, l, p', lv, rfl, hx2, hl, hp', ?_⟩
    rw [show (l.drop p').take 1 = [] by rw [drop_end (by omega)]; rfl]
    walk_at "r"
    refine itd (fun _ => ?_) (fun z => absurd rfl z)
    walk_at "r"
    exact raise p' H2 _ hR.symm hx2 y2
end
end K54
--@law law_k54_whole_things_as_texts h54.json
set_option Elab.async false
set_option linter.all false
set_option maxRecDepth 100000
set_option maxHeartbeats 4000000
namespace K54
open PySem PySem.Spec PyProof.Rows L2 KB
open SX (S)
local macro_rules | `(tactic| walk_at "s") => `(tactic| first
  | with_reducible refine r_seq ?_
  | with_reducible refine r_set ?_
  | ((with_reducible show tVar _ _ _ _); refine r_var rfl ?_)
  | with_reducible refine r_c ?_
  | with_reducible refine r_op ?_
  | with_reducible refine r_cb ?_
  | with_reducible refine r_cons ?_
  | with_reducible refine r_nil ?_
  | with_reducible refine r_test ?_
  | with_reducible refine r_if ?_
  | with_reducible refine r_I0 ?_
  | with_reducible refine r_eqS1 ?_
  | with_reducible refine r_neS1 ?_
  | with_reducible refine r_eqSL ?_
  | with_reducible refine r_neSL ?_
  | with_reducible refine r_eqI ?_
  | ((with_reducible show rEq _ _ _ _); refine r_eq ?_)
  | ((with_reducible show rNe _ _ _ _); refine r_ne ?_)
  | with_reducible refine r_bl ?_
  | with_reducible refine r_blV ?_
  | with_reducible refine r_intV ?_
  | with_reducible refine r_ret ?_
  | with_reducible refine r_next ?_
  | with_reducible refine r_callS ?_
  | with_reducible refine r_call ?_
  | with_reducible refine r_asg ?_
  | with_reducible refine r_drop ?_
  | with_reducible refine r_retN ?_
  | with_reducible refine r_un ?_
  | with_reducible refine r_U ?_
  | with_reducible refine r_tup ?_
  | with_reducible refine r_lst ?_
  | with_reducible refine r_andV ?_
  | with_reducible refine r_orV ?_
  | with_reducible refine r_notV ?_
  | with_reducible refine r_ifE ?_
  | with_reducible refine r_meth ?_
  | with_reducible refine r_make ?_
  | with_reducible refine r_fld ?_
  | with_reducible refine r_sl ?_
  | with_reducible refine r_nop ?_
  | with_reducible refine r_part ?_
  | with_reducible refine r_B ?_
  | with_reducible refine r_and ?_
  | with_reducible refine r_or ?_
  | with_reducible refine r_not ?_
  | with_reducible refine r_chain ?_
  | with_reducible refine r_bm0 ?_
  | with_reducible refine r_bm ?_
  | with_reducible refine r_m1 ?_
  | with_reducible refine r_gname ?_
  | with_reducible refine r_gnil ?_
  | with_reducible refine r_gcons ?_
  | with_reducible refine r_gsub ?_
  | with_reducible refine r_sfld ?_
  | with_reducible refine r_faug ?_
  | with_reducible refine r_rAdd ?_
  | with_reducible refine r_rSub ?_
  | with_reducible refine r_ilist ?_
  | with_reducible refine r_itup ?_
  | with_reducible refine r_irng1 ?_
  | with_reducible refine r_lc ?_
  | with_reducible refine r_for ?_
  | with_reducible refine r_istr ?_
  | with_reducible refine r_isN ?_
  | with_reducible refine r_isnN ?_
  | with_reducible refine r_abs ?_
  | with_reducible refine r_int1 ?_
  | with_reducible refine r_leS ?_
  | with_reducible refine r_brk ?_
  | with_reducible refine r_strV ?_
  | with_reducible refine iteT ?_
  | with_reducible refine iteF ?_
  | with_reducible refine itT ?_
  | with_reducible refine itF ?_
  | ((with_reducible show rLenS _ _ _); refine r_lenS (by omega) ?_)
  | ((with_reducible show rAddS _ _ _ _); refine r_addS (by first | omega | (simp only [List.length_append, List.length_cons, List.length_nil]; omega)) ?_)
  | with_reducible refine r_inSg ?_
  | with_reducible refine r_notInSg ?_
  | with_reducible refine r_strE ?_
  | with_reducible refine r_szle (by first | decide | (simp only [List.length_cons, List.length_nil]; omega)) ?_
  | with_reducible refine r_revS ?_
  | ((with_reducible show rIxL _ (.ref _) (.int _) _ _); apply r_ixL; (· walk_at "sq"); (· exact rfl))
  | ((with_reducible show rIxT _ (.ref _) (.int _) _ _); apply r_ixT; (· walk_at "sq"); (· exact rfl))
  | ((with_reducible show rLenSq _ [.ref _] _ _); first | (apply r_lenL; (· walk_at "sq")) | (apply r_lenT; (· walk_at "sq")))
  | ((with_reducible show rI _ _ (.int _) (.int _) _ _); refine r_I (by walk_at "ar") ?_)
  | with_reducible refine r_ct ?_)
local macro_rules | `(tactic| walk_at "sq") => `(tactic| first
  | assumption
  | exact SqL.of (by assumption)
  | exact SqT.of (by assumption)
  | exact SqL.of upd_same
  | exact SqT.of upd_same)
local macro_rules | `(tactic| walk_at "ar") => `(tactic| first
  | exact Or.inl ⟨by omega, by omega⟩
  | exact Or.inr ⟨by omega, by omega⟩
  | exact ⟨by omega, by omega⟩
  | exact ⟨by decide, by decide, by decide⟩
  | (show (0 : Int) < _; omega)
  | omega)
local macro_rules | `(tactic| walk_at "r") => `(tactic| repeat walk_at "s")

section
variable {P : Program} {w : World} {K : PySem.W.Frag} {mg : Str → Option Value} {base : Heap}
local macro_rules | `(tactic| walk_at "s") => `(tactic| first
  | with_reducible refine r_ft (by assumption) (by assumption) (by assumption) ?_
  | with_reducible refine r_fp (by assumption) (by assumption) (by assumption) ?_
  | with_reducible refine r_fl (by assumption) (by assumption) (by assumption) ?_
  | with_reducible refine r_mx (by assumption) (no_m (by decide) (by decide) (by decide)) ?_)
theorem m_Reader_plain (S : C54 K mg) (B : PySem.BadX.BadTxt P K mg (aBad K) (He.fAd K pB)) : Met P w K mg base 7 (He.ga K "Reader") "plain" (spRes K Tx.PW) := by
  have m_Reader_sign := m_Reader_sign (P := P) (w := w) (base := base) S
  have m_Reader_string := m_Reader_string (P := P) (w := w) (base := base) S B
  have m_Reader_integer := m_Reader_integer (P := P) (w := w) (base := base) S B
  refine met_of S (k := 6) (q := "Reader.plain") (st := s_Reader_plain) (by simp [fn, d_Reader_plain]) (by decide +kernel) (by decide +kernel) sc_Reader_plain bd_Reader_plain (fun vs H Q E ⟨x, dx, l, p, lv, h, _⟩ => by rw [h] <;> rfl) fun f cdv A outer s H vs Q E tk px hr h => ?_
  obtain ⟨x, dx, l, p, lv, rfl, hx, hl, hp, hQ, hE⟩ := h
  refine ⟨_, (pss_cons (ps_if (pt_cmpR op_eq (pe_mt0 m_Reader_sign hr (by first | decide | omega) px (pv 0)) (pe_sl [46]) (nomark _)) (pss_cons (ps_fldaug (pv 0) pe_int in_add)
        (pss_one (ps_ret pe_non))) pss_nil)
      (pss_cons (ps_if (pt_cmpR op_eq (pe_mt0 m_Reader_sign hr (by first | decide | omega) px (pv 0)) (pe_ks (by rfl) (S.str "QUOTE" "'") [39]) (nomark _)) (pss_cons (ps_fldaug (pv 0) pe_int in_add)
        (pss_one (ps_ret (pe_mt0 m_Reader_string hr (by first | decide | omega) px (pv 0))))) pss_nil)
      (pss_one (ps_ret (pe_mt0 m_Reader_integer hr (by first | decide | omega) px (pv 0)))))), ?_⟩
  try simp only [cxK]
  have hc := S.cls "Reader"
  have n1 := S.noat "Reader" "text"
  have n2 := S.noat "Reader" "place"
  walk_at "r"
  refine ⟨x, dx, l, p, lv, rfl, hx, hl, hp, ?_⟩
  by_cases h1 : p < l.length
  · obtain ⟨c, hc1, hc2, hc3⟩ := drop_at h1
    rw [take1 hc3]
    walk_at "r"
    refine itd (fun h2 => ?_) (fun h2 => ?_)
    · subst h2
      walk_at "r"
      refine r_adv hx hc n2 fun H1 hx1 y1 => ?_
      walk_at "r"
      exact hQ .none _ _ _ H1 (by rw [hc3]; rfl) y1 hx1 .non
    · walk_at "r"
      refine ⟨x, dx, l, p, lv, rfl, hx, hl, hp, ?_⟩
      rw [take1 hc3]
      walk_at "r"
      refine itd (fun h3 => ?_) (fun h3 => ?_)
      · subst h3
        have hPW : Tx.PW (l.drop p) p = Tx.rdS (l.drop (p + 1)) (p + 1) [] := by rw [hc3]; rfl
        rw [hPW] at hQ hE
        walk_at "r"
        refine r_adv hx hc n2 fun H1 hx1 y1 => ?_
        walk_at "r"
        exact ⟨x, dx, l, p + 1, lv, rfl, hx1, hl, by omega, fun d r q v H' e y hx' hd => hQ d r q v H' e (y1.trans y) hx' hd, fun q e d H' y => hE q e d H' (y1.trans y)⟩
      · have hPW : Tx.PW (l.drop p) p = Tx.rdI (l.drop p) p := by
          unfold Tx.PW
          rw [hc3]
          split
          · rename_i z; cases z
          · rename_i z; exact absurd (List.cons.inj z).1 h2
          · rename_i z; exact absurd (List.cons.inj z).1 h3
          · rfl
        rw [hPW] at hQ hE
        walk_at "r"
        exact ⟨x, dx, l, p, lv, rfl, hx, hl, hp, hQ, hE⟩
  · have hPW : Tx.PW (l.drop p) p = Tx.rdI (l.drop p) p := by
      rw [drop_end (by omega)]
      rfl
    rw [hPW] at hQ hE
    have e : (l.drop p).take 1 = [] := by rw [drop_end (by omega)]; rfl
    rw [e]
    walk_at "r"
    refine itd (fun h2 => by cases h2) (fun h2 => ?_)
    walk_at "r"
    refine ⟨x, dx, l, p, lv, rfl, hx, hl, hp, ?_⟩
    rw [e]
    walk_at "r"
    refine itd (fun h2 => by cases h2) (fun h2 => ?_)
    walk_at "r"
    exact ⟨x, dx, l, p, lv, rfl, hx, hl, hp, hQ, hE⟩
/-! ### the levels -/
inductive Els (H : Hp) : List Addr → List (List PyData) → Prop
  | nil : Els H [] []
  | cons {a : Addr} {as : List Addr} {acc : List PyData} {L : List (List PyData)} {xs : List V} : H a = some (.lst xs) → TDs H xs acc → Els H as L → Els H (a :: as) (acc :: L)
theorem Els.len {H : Hp} : ∀ {as : List Addr} {L : List (List PyData)}, Els H as L → as.length = L.length
  | _, _, .nil => rfl
  | _, _, .cons _ _ h => by simp [h.len]
theorem Els.keep {H H' : Hp} (k : KT H H') : ∀ {as : List Addr} {L : List (List PyData)}, (∀ a ∈ as, ∀ o, H a = some o → H' a = some o) → Els H as L → Els H' as L
  | _, _, _, .nil => .nil
  | _, _, g, .cons h1 h2 h3 => .cons (g _ (List.mem_cons_self ..) _ h1) (h2.kt k) (h3.keep k fun a ha => g a (List.mem_cons_of_mem _ ha))
structure RS (K : PySem.W.Frag) (H0 H : Hp) (x dx lv : Addr) (l : List Nat) (p : Nat) (as : List Addr) (L : List (List PyData)) : Prop where
  ex : Ex H0 H
  x0 : H0 x = none
  lv0 : H0 lv = none
  ne : lv ≠ x
  ro : RO K H x dx l (p : Nat) lv
  pl : p ≤ l.length
  lvl : H lv = some (.lst (as.reverse.map V.ref))
  nd : as.Nodup
  nx : ∀ a ∈ as, a ≠ x ∧ a ≠ lv ∧ H0 a = none
  els : Els H as L
  len : L.length ≤ 30
section
variable {H0 H H' : Hp} {x dx lv : Addr} {l : List Nat} {p q : Nat} {as : List Addr} {L : List (List PyData)}
theorem Xe1.kt (y : Xe1 x H H') {o : HO} (h : H x = some o) (ho : ∀ xs, o ≠ .tup xs) : KT H H' := fun b xs e => y b _ (fun z => by
  rw [z, h] at e
  exact ho xs (Option.some.inj e)) e
theorem RS.step (h : RS K H0 H x dx lv l p as L) (y : Xe1 x H H') (r : RO K H' x dx l (q : Nat) lv) (hq : q ≤ l.length) : RS K H0 H' x dx lv l q as L :=
  ⟨fun b o e => y b o (fun z => by rw [z, h.x0] at e; cases e) (h.ex b o e), h.x0, h.lv0, h.ne, r, hq, y _ _ h.ne h.lvl, h.nd, h.nx,
    h.els.keep (Xe1.kt y h.ro fun xs z => by cases z) fun a ha o e => y _ _ (h.nx a ha).1 e, h.len⟩
theorem RS.more (h : RS K H0 H x dx lv l p as L) (y : Ex H H') : RS K H0 H' x dx lv l p as L :=
  h.step (Ex.xe y) (y _ _ h.ro) h.pl
/-- a level is put on -/
theorem RS.push {a : Addr} (h : RS K H0 H x dx lv l p as L) (ha : H a = none) (hL : L.length < 30) : RS K H0 (L2.upd (L2.upd H a (.lst [])) lv (.lst ((as.reverse.map V.ref) ++ [V.ref a]))) x dx lv l p (a :: as) ([] :: L) := by
  have ax : a ≠ x := fun z => by have := h.ro; rw [← z] at this; unfold RO at this; rw [ha] at this; cases this
  have al : a ≠ lv := fun z => by have := h.lvl; rw [← z, ha] at this; cases this
  have e1 : Ex H (L2.upd H a (.lst [])) := Evl.Ex.new ha
  have h1 := h.more e1
  refine ⟨Evl.Ex.mut h1.ex h.lv0, h.x0, h.lv0, h.ne, ?_, h.pl, ?_, ?_, ?_, ?_, ?_⟩
  · unfold RO
    rw [upd_ne (Ne.symm h.ne)]
    exact h1.ro
  · rw [upd_same]
    simp
  · refine List.nodup_cons.mpr ⟨fun hm => ?_, h.nd⟩
    have key : ∀ {as : List Addr} {L : List (List PyData)}, Els H as L → a ∈ as → False := by
      intro as L he
      induction he with
      | nil => intro z; cases z
      | cons g1 g2 g3 ih =>
        intro z
        rcases List.mem_cons.mp z with rfl | z
        · rw [ha] at g1
          cases g1
        · exact ih z
    exact key h.els hm
  · intro b hb
    rcases List.mem_cons.mp hb with rfl | hb
    · exact ⟨ax, al, Evl.fresh_back h.ex ha⟩
    · exact h.nx b hb
  · refine .cons (xs := []) (by rw [upd_ne al]; exact upd_same) .nil (h1.els.keep (KT.upd fun xs z => by rw [h1.lvl] at z; cases z) fun b hb o e => by rw [upd_ne (h.nx b hb).2.1]; exact e)
  · simp only [List.length_cons]
    omega
/-- a thing is put to the innermost level -/
theorem RS.app {a : Addr} {acc : List PyData} {xs : List V} {v : V} {d : PyData} (h : RS K H0 H x dx lv l p (a :: as) (acc :: L)) (hx : H a = some (.lst xs)) (hxs : TDs H xs acc) (hd : TD H v d) : RS K H0 (L2.upd H a (.lst (xs ++ [v]))) x dx lv l p (a :: as) ((acc ++ [d]) :: L) := by
  obtain ⟨ax, al, a0⟩ := h.nx a (List.mem_cons_self ..)
  have kt : KT H (L2.upd H a (.lst (xs ++ [v]))) := KT.upd fun ys z => by rw [hx] at z; cases z
  refine ⟨Evl.Ex.mut h.ex a0, h.x0, h.lv0, h.ne, ?_, h.pl, ?_, h.nd, h.nx, ?_, h.len⟩
  · unfold RO
    rw [upd_ne (Ne.symm ax)]
    exact h.ro
  · rw [upd_ne (Ne.symm al)]
    exact h.lvl
  · cases h.els with
    | cons g1 g2 g3 =>
      refine .cons upd_same (TDs.app (hxs.kt kt) (.cons (hd.kt kt) .nil)) (g3.keep kt fun b hb o e => ?_)
      rw [upd_ne (fun z => (List.nodup_cons.mp h.nd).1 (by rw [← z]; exact hb))]
      exact e
/-- the innermost level is taken off -/
theorem RS.pop {a : Addr} {acc : List PyData} (h : RS K H0 H x dx lv l p (a :: as) (acc :: L)) : RS K H0 (L2.upd H lv (.lst (as.reverse.map V.ref))) x dx lv l p as L ∧ ∃ xs, (L2.upd H lv (.lst (as.reverse.map V.ref))) a = some (.lst xs) ∧ TDs (L2.upd H lv (.lst (as.reverse.map V.ref))) xs acc := by
  obtain ⟨ax, al, a0⟩ := h.nx a (List.mem_cons_self ..)
  have kt : KT H (L2.upd H lv (.lst (as.reverse.map V.ref))) := KT.upd fun ys z => by rw [h.lvl] at z; cases z
  have hl := h.len
  simp only [List.length_cons] at hl
  cases h.els with
  | cons g1 g2 g3 =>
    refine ⟨⟨Evl.Ex.mut h.ex h.lv0, h.x0, h.lv0, h.ne, ?_, h.pl, upd_same, (List.nodup_cons.mp h.nd).2, fun b hb => h.nx b (List.mem_cons_of_mem _ hb), ?_, by omega⟩, _, ?_, g2.kt kt⟩
    · unfold RO
      rw [upd_ne (Ne.symm h.ne)]
      exact h.ro
    · exact g3.keep kt fun b hb o e => by rw [upd_ne (h.nx b (List.mem_cons_of_mem _ hb)).2.1]; exact e
    · rw [upd_ne al]
      exact g1
end
theorem atI_last {α : Type} (xs : List α) (y : α) : atI (xs ++ [y]) (-1) = some y := by
  unfold atI ixN
  rw [if_neg (by omega), if_pos (by rw [List.length_append]; simp only [List.length_cons, List.length_nil]; omega)]
  show (xs ++ [y])[((-1 : Int) + ((xs ++ [y]).length : Int)).toNat]? = some y
  rw [show ((-1 : Int) + ((xs ++ [y]).length : Int)).toNat = xs.length by rw [List.length_append]; simp only [List.length_cons, List.length_nil]; omega]
  simp
end
end K54
--@law law_k54_whole_things_as_texts h54.json
set_option Elab.async false
set_option linter.all false
set_option maxRecDepth 100000
set_option maxHeartbeats 4000000
namespace K54
open PySem PySem.Spec PyProof.Rows L2 KB
open SX (S)
local macro_rules | `(tactic| walk_at "s") => `(tactic| first
  | with_reducible refine r_seq ?_
  | with_reducible refine r_set ?_
  | ((with_reducible show tVar _ _ _ _); refine r_var rfl ?_)
  | with_reducible refine r_c ?_
  | with_reducible refine r_op ?_
  | with_reducible refine r_cb ?_
  | with_reducible refine r_cons ?_
  | with_reducible refine r_nil ?_
  | with_reducible refine r_test ?_
  | with_reducible refine r_if ?_
  | with_reducible refine r_I0 ?_
  | with_reducible refine r_eqS1 ?_
  | with_reducible refine r_neS1 ?_
  | with_reducible refine r_eqSL ?_
  | with_reducible refine r_neSL ?_
  | with_reducible refine r_eqI ?_
  | ((with_reducible show rEq _ _ _ _); refine r_eq ?_)
  | ((with_reducible show rNe _ _ _ _); refine r_ne ?_)
  | with_reducible refine r_bl ?_
  | with_reducible refine r_blV ?_
  | with_reducible refine r_intV ?_
  | with_reducible refine r_ret ?_
  | with_reducible refine r_next ?_
  | with_reducible refine r_callS ?_
  | with_reducible refine r_call ?_
  | with_reducible refine r_asg ?_
  | with_reducible refine r_drop ?_
  | with_reducible refine r_retN ?_
  | with_reducible refine r_un ?_
  | with_reducible refine r_U ?_
  | with_reducible refine r_tup ?_
  | with_reducible refine r_lst ?_
  | with_reducible refine r_andV ?_
  | with_reducible refine r_orV ?_
  | with_reducible refine r_notV ?_
  | with_reducible refine r_ifE ?_
  | with_reducible refine r_meth ?_
  | with_reducible refine r_make ?_
  | with_reducible refine r_fld ?_
  | with_reducible refine r_sl ?_
  | with_reducible refine r_nop ?_
  | with_reducible refine r_part ?_
  | with_reducible refine r_B ?_
  | with_reducible refine r_and ?_
  | with_reducible refine r_or ?_
  | with_reducible refine r_not ?_
  | with_reducible refine r_chain ?_
  | with_reducible refine r_bm0 ?_
  | with_reducible refine r_bm ?_
  | with_reducible refine r_m1 ?_
  | with_reducible refine r_gname ?_
  | with_reducible refine r_gnil ?_
  | with_reducible refine r_gcons ?_
  | with_reducible refine r_gsub ?_
  | with_reducible refine r_sfld ?_
  | with_reducible refine r_faug ?_
  | with_reducible refine r_rAdd ?_
  | with_reducible refine r_rSub ?_
  | with_reducible refine r_ilist ?_
  | with_reducible refine r_itup ?_
  | with_reducible refine r_irng1 ?_
  | with_reducible refine r_lc ?_
  | with_reducible refine r_for ?_
  | with_reducible refine r_istr ?_
  | with_reducible refine r_isN ?_
  | with_reducible refine r_isnN ?_
  | with_reducible refine r_abs ?_
  | with_reducible refine r_int1 ?_
  | with_reducible refine r_leS ?_
  | with_reducible refine r_brk ?_
  | with_reducible refine r_strV ?_
  | with_reducible refine iteT ?_
  | with_reducible refine iteF ?_
  | with_reducible refine itT ?_
  | with_reducible refine itF ?_
  | ((with_reducible show rLenS _ _ _); refine r_lenS (by omega) ?_)
  | ((with_reducible show rAddS _ _ _ _); refine r_addS (by first | omega | (simp only [List.length_append, List.length_cons, List.length_nil]; omega)) ?_)
  | with_reducible refine r_inSg ?_
  | with_reducible refine r_notInSg ?_
  | with_reducible refine r_strE ?_
  | with_reducible refine r_szle (by first | decide | (simp only [List.length_cons, List.length_nil]; omega)) ?_
  | with_reducible refine r_revS ?_
  | ((with_reducible show rIxL _ (.ref _) (.int _) _ _); apply r_ixL; (· walk_at "sq"); (· exact rfl))
  | ((with_reducible show rIxT _ (.ref _) (.int _) _ _); apply r_ixT; (· walk_at "sq"); (· exact rfl))
  | ((with_reducible show rLenSq _ [.ref _] _ _); first | (apply r_lenL; (· walk_at "sq")) | (apply r_lenT; (· walk_at "sq")))
  | ((with_reducible show rI _ _ (.int _) (.int _) _ _); refine r_I (by walk_at "ar") ?_)
  | with_reducible refine r_ct ?_)
local macro_rules | `(tactic| walk_at "sq") => `(tactic| first
  | assumption
  | exact SqL.of (by assumption)
  | exact SqT.of (by assumption)
  | exact SqL.of upd_same
  | exact SqT.of upd_same)
local macro_rules | `(tactic| walk_at "ar") => `(tactic| first
  | exact Or.inl ⟨by omega, by omega⟩
  | exact Or.inr ⟨by omega, by omega⟩
  | exact ⟨by omega, by omega⟩
  | exact ⟨by decide, by decide, by decide⟩
  | (show (0 : Int) < _; omega)
  | omega)
local macro_rules | `(tactic| walk_at "r") => `(tactic| repeat walk_at "s")

section
variable {P : Program} {w : World} {K : PySem.W.Frag} {mg : Str → Option Value} {base : Heap}
local macro_rules | `(tactic| walk_at "s") => `(tactic| first
  | with_reducible refine r_ft (by assumption) (by assumption) (by assumption) ?_
  | with_reducible refine r_fp (by assumption) (by assumption) (by assumption) ?_
  | with_reducible refine r_fl (by assumption) (by assumption) (by assumption) ?_
  | with_reducible refine r_mx (by assumption) (no_m (by decide) (by decide) (by decide)) ?_)
theorem r_tyL {K : PySem.W.Frag} {H : Hp} {p : Addr} {xs : List V} {T : Prop} (h : H p = some (.lst xs)) (q : T) : tyV K "list" (.ref p) H ∧ T := ⟨.inl ⟨rfl, _, SqL.of h⟩, q⟩
def Bd (L : List (List PyData)) (b : Nat) : Prop := ∀ acc ∈ L, acc.length ≤ b
def EndE (K : PySem.W.Frag) (H0 : Hp) (E : XK) (R : Sum PyData Nat) : Prop := ∀ (q : Nat) (d : Addr) (H' : Hp), R = .inr q → Ex H0 H' → H' d = some (.xd [("place", .int (q : Nat))]) → E (.ref (aBad K)) (some d) H'
def spEnter (K : PySem.W.Frag) : Sp := fun vs H Q E => ∃ (H0 : Hp) (x dx lv : Addr) (l : List Nat) (p : Nat) (as : List Addr) (L : List (List PyData)) (R : Sum PyData Nat), vs = [.ref x] ∧ RS K H0 H x dx lv l p as L ∧ Bd L p ∧ l.length ≤ 100000 ∧ Tx.exq L (l.drop p) p = R ∧
  (∀ H' p' as' L', RS K H0 H' x dx lv l p' as' L' → Bd L' p' → p ≤ p' → Tx.exq L' (l.drop p') p' = R → (∀ r, l.drop p' ≠ 40 :: r) → Q (.bl false) H') ∧
  (∀ H' p' as' L', RS K H0 H' x dx lv l (p' + 1) as' ([] :: L') → Bd L' p' → p ≤ p' → Tx.fin L' (.tuple []) (l.drop (p' + 1)) (p' + 1) = R → Q (.bl true) H') ∧ EndE K H0 E R
theorem m_Reader_enter_tuples (S : C54 K mg) (B : PySem.BadX.BadTxt P K mg (aBad K) (He.fAd K pB)) : Met P w K mg base 6 (He.ga K "Reader") "enter_tuples" (spEnter K) := by
  have m_Reader_sign := m_Reader_sign (P := P) (w := w) (base := base) S
  have m_Reader_wrong := m_Reader_wrong (P := P) (w := w) (base := base) S B
  refine met_of S (k := 5) (q := "Reader.enter_tuples") (st := s_Reader_enter_tuples) (by simp [fn, d_Reader_enter_tuples]) (by decide +kernel) (by decide +kernel) sc_Reader_enter_tuples bd_Reader_enter_tuples (fun vs H Q E ⟨H0, x, dx, lv, l, p, as, L, R, h, _⟩ => by rw [h] <;> rfl) fun f cdv A outer s H vs Q E tk px hr h => ?_
  obtain ⟨H0, x, dx, lv, l, p, as, L, R, rfl, hs, hb, hl, hR, hF, hT, hE⟩ := h
  refine ⟨_, (pss_cons (ps_while (passes_of rfl) (pt_cmpR op_eq (pe_mt0 m_Reader_sign hr (by first | decide | omega) px (pv 0)) (pe_sl [40]) (nomark _)) (pss_cons (ps_if (pt_cmpR op_eq (pe_callB call_lenSq (by rfl) (S.free "len") PySem.boot_len (pa_cons (pe_fld (pv 0) rfl) pa_nil)) (pe_k (by rfl) (S.int "MOST_DEEP" 30)) (nomark _)) (pss_one (ps_expr (pe_mt0 m_Reader_wrong hr (by first | decide | omega) px (pv 0)))) pss_nil)
        (pss_cons (ps_expr (pe_bm PySem.F.plainAttrs_list PySem.F.slot_list_append PySem.F.type_list_append mt_append (pe_fld (pv 0) rfl) (pa_cons (pe_lst pa_nil) pa_nil)))
        (pss_cons (ps_fldaug (pv 0) pe_int in_add)
        (pss_one (ps_if (pt_cmpR op_eq (pe_mt0 m_Reader_sign hr (by first | decide | omega) px (pv 0)) (pe_sl [41]) (nomark _)) (pss_cons (ps_fldaug (pv 0) pe_int in_add)
          (pss_one (ps_ret pe_bl))) pss_nil))))))
      (pss_one (ps_ret pe_bl))), ?_⟩
  try simp only [cxK]
  have hc := S.cls "Reader"
  have n1 := S.noat "Reader" "text"
  have n2 := S.noat "Reader" "place"
  have n3 := S.noat "Reader" "levels"
  have raise : ∀ (q : Nat) (as : List Addr) (L : List (List PyData)) (H1 : Hp) (Q1 : VK), R = .inr q → RS K H0 H1 x dx lv l q as L → spWrong K [.ref x] H1 Q1 E := fun q as L H1 Q1 hb h1 =>
    ⟨x, dx, l, q, lv, rfl, h1.ro, fun d H' x' e => hE q d H' hb (Evl.Ex.trans h1.ex x') e⟩
  walk_at "r"
  refine ⟨fun m σ H' => ∃ (p' : Nat) (as : List Addr) (L : List (List PyData)), σ = [some (.ref x)] ∧ RS K H0 H' x dx lv l p' as L ∧ Bd L p' ∧ p ≤ p' ∧ Tx.exq L (l.drop p') p' = R ∧ m = l.length + 1 - p', ⟨_, p, as, L, rfl, hs, hb, Nat.le_refl _, hR, rfl⟩, ?_⟩
  clear hs hb hR
  rintro m σ H1 ⟨p', as, L, rfl, hs, hb, hpp, hR, rfl⟩
  have hp' := hs.pl
  have ro := hs.ro
  walk_at "r"
  refine ⟨x, dx, l, p', lv, rfl, hs.ro, hl, hs.pl, ?_⟩
  by_cases h1 : p' < l.length
  · obtain ⟨c, hc1, hc2, hc3⟩ := drop_at h1
    rw [take1 hc3]
    walk_at "r"
    refine itd (fun h2 => ?_) (fun h2 => ?_)
    · subst h2
      rw [hc3] at hR
      refine ⟨fun σ H' => ∃ (p2 : Nat) (as : List Addr) (L : List (List PyData)), σ = [some (.ref x)] ∧ RS K H0 H' x dx lv l p2 as L ∧ Bd L p2 ∧ p' < p2 ∧ Tx.exq L (l.drop p2) p2 = R, ?_, ?_⟩
      · rintro σ' H' ⟨p2, as, L, a1, a2, a3, a4, a5⟩
        exact ⟨l.length + 1 - p2, by omega, p2, as, L, a1, a2, a3, by omega, a5, rfl⟩
      · walk_at "r"
        refine r_lenL (SqL.of hs.lvl) ?_
        have hlen : ((as.reverse.map V.ref).length : Int) = (L.length : Nat) := by
          rw [List.length_map, List.length_reverse, hs.els.len]
        rw [hlen]
        walk_at "r"
        refine itd (fun h3 => ?_) (fun h3 => ?_)
        · rw [Tx.exq_deep _ _ _ (by omega)] at hR
          walk_at "r"
          exact raise p' as L H1 _ hR.symm hs
        · have hL30 : L.length < 30 := by have := hs.len; omega
          walk_at "r"
          refine r_tyL hs.lvl ?_
          walk_at "r"
          intro a ha
          have hal : lv ≠ a := fun z => by have := hs.lvl; rw [z, ha] at this; cases this
          refine ⟨lv, _, _, rfl, rfl, by rw [upd_ne hal]; exact hs.lvl, by rw [List.length_map, List.length_reverse, hs.els.len, sizeLine_eq]; omega, ?_⟩
          have hs2 := hs.push ha hL30
          generalize L2.upd (L2.upd H1 a (.lst [])) lv (.lst ((as.reverse.map V.ref) ++ [V.ref a])) = H2 at hs2
          have ro2 := hs2.ro
          walk_at "r"
          refine r_adv hs2.ro hc n2 fun H3 hx3 y3 => ?_
          have hs3 := hs2.step y3 hx3 (by omega)
          walk_at "r"
          refine ⟨x, dx, l, p' + 1, lv, rfl, hs3.ro, hl, hs3.pl, ?_⟩
          by_cases h5 : p' + 1 < l.length
          · obtain ⟨c2, hd1, hd2, hd3⟩ := drop_at h5
            rw [take1 hd3]
            walk_at "r"
            refine itd (fun h6 => ?_) (fun h6 => ?_)
            · subst h6
              rw [hd3, Tx.exq_empty _ _ _ hL30] at hR
              walk_at "r"
              refine r_adv hs3.ro hc n2 fun H4 hx4 y4 => ?_
              have hs4 := hs3.step y4 hx4 (by omega)
              walk_at "r"
              exact hT H4 (p' + 1) (a :: as) L hs4 (fun acc h => by have := hb acc h; omega) (by omega) hR
            · rw [hd3, Tx.exq_open _ _ _ hL30 (fun r' z => h6 (List.cons.inj z).1), ← hd3] at hR
              walk_at "r"
              refine ⟨p' + 1, a :: as, [] :: L, rfl, hs3, fun acc h => ?_, by omega, hR⟩
              rcases List.mem_cons.mp h with rfl | h
              · simp
              · have := hb acc h
                omega
          · rw [show (l.drop (p' + 1)).take 1 = [] by rw [drop_end (by omega)]; rfl]
            rw [Tx.exq_open _ _ _ hL30 (fun r' z => by rw [drop_end (by omega)] at z; cases z)] at hR
            walk_at "r"
            refine itd (fun h6 => by cases h6) (fun h6 => ?_)
            walk_at "r"
            refine ⟨p' + 1, a :: as, [] :: L, rfl, hs3, fun acc h => ?_, by omega, hR⟩
            rcases List.mem_cons.mp h with rfl | h
            · simp
            · have := hb acc h
              omega
    · walk_at "r"
      exact hF H1 p' as L hs hb hpp hR fun r z => h2 (by rw [hc3] at z; exact (List.cons.inj z).1)
  · rw [show (l.drop p').take 1 = [] by rw [drop_end (by omega)]; rfl]
    walk_at "r"
    refine itd (fun h6 => by cases h6) (fun h6 => ?_)
    walk_at "r"
    exact hF H1 p' as L hs hb hpp hR fun r z => by rw [drop_end (by omega)] at z; cases z
end
end K54
--@law law_k54_whole_things_as_texts h54.json
set_option Elab.async false
set_option linter.all false
set_option maxRecDepth 100000
set_option maxHeartbeats 4000000
namespace K54
open PySem PySem.Spec PyProof.Rows L2 KB
open SX (S)
local macro_rules | `(tactic| walk_at "s") => `(tactic| first
  | with_reducible refine r_seq ?_
  | with_reducible refine r_set ?_
  | ((with_reducible show tVar _ _ _ _); refine r_var rfl ?_)
  | with_reducible refine r_c ?_
  | with_reducible refine r_op ?_
  | with_reducible refine r_cb ?_
  | with_reducible refine r_cons ?_
  | with_reducible refine r_nil ?_
  | with_reducible refine r_test ?_
  | with_reducible refine r_if ?_
  | with_reducible refine r_I0 ?_
  | with_reducible refine r_eqS1 ?_
  | with_reducible refine r_neS1 ?_
  | with_reducible refine r_eqSL ?_
  | with_reducible refine r_neSL ?_
  | with_reducible refine r_eqI ?_
  | ((with_reducible show rEq _ _ _ _); refine r_eq ?_)
  | ((with_reducible show rNe _ _ _ _); refine r_ne ?_)
  | with_reducible refine r_bl ?_
  | with_reducible refine r_blV ?_
  | with_reducible refine r_intV ?_
  | with_reducible refine r_ret ?_
  | with_reducible refine r_next ?_
  | with_reducible refine r_callS ?_
  | with_reducible refine r_call ?_
  | with_reducible refine r_asg ?_
  | with_reducible refine r_drop ?_
  | with_reducible refine r_retN ?_
  | with_reducible refine r_un ?_
  | with_reducible refine r_U ?_
  | with_reducible refine r_tup ?_
  | with_reducible refine r_lst ?_
  | with_reducible refine r_andV ?_
  | with_reducible refine r_orV ?_
  | with_reducible refine r_notV ?_
  | with_reducible refine r_ifE ?_
  | with_reducible refine r_meth ?_
  | with_reducible refine r_make ?_
  | with_reducible refine r_fld ?_
  | with_reducible refine r_sl ?_
  | with_reducible refine r_nop ?_
  | with_reducible refine r_part ?_
  | with_reducible refine r_B ?_
  | with_reducible refine r_and ?_
  | with_reducible refine r_or ?_
  | with_reducible refine r_not ?_
  | with_reducible refine r_chain ?_
  | with_reducible refine r_bm0 ?_
  | with_reducible refine r_bm ?_
  | with_reducible refine r_m1 ?_
  | with_reducible refine r_gname ?_
  | with_reducible refine r_gnil ?_
  | with_reducible refine r_gcons ?_
  | with_reducible refine r_gsub ?_
  | with_reducible refine r_sfld ?_
  | with_reducible refine r_faug ?_
  | with_reducible refine r_rAdd ?_
  | with_reducible refine r_rSub ?_
  | with_reducible refine r_ilist ?_
  | with_reducible refine r_itup ?_
  | with_reducible refine r_irng1 ?_
  | with_reducible refine r_lc ?_
  | with_reducible refine r_for ?_
  | with_reducible refine r_istr ?_
  | with_reducible refine r_isN ?_
  | with_reducible refine r_isnN ?_
  | with_reducible refine r_abs ?_
  | with_reducible refine r_int1 ?_
  | with_reducible refine r_leS ?_
  | with_reducible refine r_brk ?_
  | with_reducible refine r_strV ?_
  | with_reducible refine iteT ?_
  | with_reducible refine iteF ?_
  | with_reducible refine itT ?_
  | with_reducible refine itF ?_
  | ((with_reducible show rLenS _ _ _); refine r_lenS (by omega) ?_)
  | ((with_reducible show rAddS _ _ _ _); refine r_addS (by first | omega | (simp only [List.length_append, List.length_cons, List.length_nil]; omega)) ?_)
  | with_reducible refine r_inSg ?_
  | with_reducible refine r_notInSg ?_
  | with_reducible refine r_strE ?_
  | with_reducible refine r_szle (by first | decide | (simp only [List.length_cons, List.length_nil]; omega)) ?_
  | with_reducible refine r_revS ?_
  | ((with_reducible show rIxL _ (.ref _) (.int _) _ _); apply r_ixL; (· walk_at "sq"); (· exact rfl))
  | ((with_reducible show rIxT _ (.ref _) (.int _) _ _); apply r_ixT; (· walk_at "sq"); (· exact rfl))
  | ((with_reducible show rLenSq _ [.ref _] _ _); first | (apply r_lenL; (· walk_at "sq")) | (apply r_lenT; (· walk_at "sq")))
  | ((with_reducible show rI _ _ (.int _) (.int _) _ _); refine r_I (by walk_at "ar") ?_)
  | with_reducible refine r_ct ?_)
local macro_rules | `(tactic| walk_at "sq") => `(tactic| first
  | assumption
  | exact SqL.of (by assumption)
  | exact SqT.of (by assumption)
  | exact SqL.of upd_same
  | exact SqT.of upd_same)
local macro_rules | `(tactic| walk_at "ar") => `(tactic| first
  | exact Or.inl ⟨by omega, by omega⟩
  | exact Or.inr ⟨by omega, by omega⟩
  | exact ⟨by omega, by omega⟩
  | exact ⟨by decide, by decide, by decide⟩
  | (show (0 : Int) < _; omega)
  | omega)
local macro_rules | `(tactic| walk_at "r") => `(tactic| repeat walk_at "s")

section
variable {P : Program} {w : World} {K : PySem.W.Frag} {mg : Str → Option Value} {base : Heap}
local macro_rules | `(tactic| walk_at "s") => `(tactic| first
  | with_reducible refine r_ft (by assumption) (by assumption) (by assumption) ?_
  | with_reducible refine r_fp (by assumption) (by assumption) (by assumption) ?_
  | with_reducible refine r_fl (by assumption) (by assumption) (by assumption) ?_
  | with_reducible refine r_mx (by assumption) (no_m (by decide) (by decide) (by decide)) ?_)
theorem r_popL {H : Hp} {lv a : Addr} {as : List Addr} {Q : VK} (h : H lv = some (.lst ((a :: as).reverse.map V.ref))) (q : Q (.ref a) (L2.upd H lv (.lst (as.reverse.map V.ref)))) : rPop (.ref lv) [] H Q := by
  have e : (a :: as).reverse.map V.ref = as.reverse.map V.ref ++ [V.ref a] := by simp
  rw [e] at h
  refine ⟨lv, _, .ref a, rfl, rfl, h, by simp, ?_⟩
  rw [List.dropLast_concat]
  exact q
def spRead (K : PySem.W.Frag) : Sp := fun vs H Q E => ∃ (H0 : Hp) (x dx lv : Addr) (l : List Nat), vs = [.ref x] ∧ RS K H0 H x dx lv l 0 [] [] ∧ l.length ≤ 100000 ∧ (∀ v d H', Tx.parse l = .inl d → Ex H0 H' → TD H' v d → Q v H') ∧ EndE K H0 E (Tx.parse l)
theorem m_Reader_read (S : C54 K mg) (B : PySem.BadX.BadTxt P K mg (aBad K) (He.fAd K pB)) : Met P w K mg base 8 (He.ga K "Reader") "read" (spRead K) := by
  have m_Reader_sign := m_Reader_sign (P := P) (w := w) (base := base) S
  have m_Reader_wrong := m_Reader_wrong (P := P) (w := w) (base := base) S B
  have m_Reader_enter_tuples := m_Reader_enter_tuples (P := P) (w := w) (base := base) S B
  have m_Reader_plain := m_Reader_plain (P := P) (w := w) (base := base) S B
  refine met_of S (k := 7) (q := "Reader.read") (st := s_Reader_read) (by simp [fn, d_Reader_read]) (by decide +kernel) (by decide +kernel) sc_Reader_read bd_Reader_read (fun vs H Q E ⟨H0, x, dx, lv, l, h, _⟩ => by rw [h] <;> rfl) fun f cdv A outer s H vs Q E tk px hr h => ?_
  obtain ⟨H0, x, dx, lv, l, rfl, hs, hl, hQ, hE⟩ := h
  refine ⟨_, (pss_one (ps_while (passes_of rfl) (pt_val pe_bl) (Evl.pss_cut (ps_set (i := 1) sc_Reader_read.nd rfl (by first | exact Or.inl rfl | exact Or.inr rfl) (pe_ifExp (pt_val (pe_mt0 m_Reader_enter_tuples hr (by first | decide | omega) px (pv 0))) (pe_callTy call_tupOf (by rfl) (S.free "tuple") (by decide +kernel) (pa_cons (pe_bm0 PySem.F.plainAttrs_list PySem.F.slot_list_pop PySem.F.type_list_pop mt_pop (pe_fld (pv 0) rfl)) pa_nil)) (pe_mt0 m_Reader_plain hr (by first | decide | omega) px (pv 0))))
        (Evl.pss_cut (ps_while (passes_of rfl) (pt_cmpR op_gt (pe_callB call_lenSq (by rfl) (S.free "len") PySem.boot_len (pa_cons (pe_fld (pv 0) rfl) pa_nil)) pe_int (nomark _)) (pss_cons (ps_expr (pe_bm PySem.F.plainAttrs_list PySem.F.slot_list_append PySem.F.type_list_append mt_append (pe_ix ix_list (pe_fld (pv 0) rfl) (pe_un un_neg pe_int) (fun _ _ => rfl)) (pa_cons (pv 1) pa_nil)))
          (pss_cons (ps_if (pt_cmpR op_ne (pe_mt0 m_Reader_sign hr (by first | decide | omega) px (pv 0)) (pe_sl [41]) (nomark _)) (pss_one ps_break) pss_nil)
          (pss_cons (ps_set (i := 1) sc_Reader_read.nd rfl (by first | exact Or.inl rfl | exact Or.inr rfl) (pe_callTy call_tupOf (by rfl) (S.free "tuple") (by decide +kernel) (pa_cons (pe_bm0 PySem.F.plainAttrs_list PySem.F.slot_list_pop PySem.F.type_list_pop mt_pop (pe_fld (pv 0) rfl)) pa_nil)))
          (pss_one (ps_fldaug (pv 0) pe_int in_add))))))
        (pss_cons (ps_if (pt_cmpR op_eq (pe_callB call_lenSq (by rfl) (S.free "len") PySem.boot_len (pa_cons (pe_fld (pv 0) rfl) pa_nil)) pe_int (nomark _)) (pss_cons (ps_if (pt_cmpR op_ne (pe_mt0 m_Reader_sign hr (by first | decide | omega) px (pv 0)) (pe_sl []) (nomark _)) (pss_one (ps_expr (pe_mt0 m_Reader_wrong hr (by first | decide | omega) px (pv 0)))) pss_nil)
          (pss_one (ps_ret (pv 1)))) pss_nil)
        (pss_cons (ps_if (pt_cmpR op_ne (pe_mt0 m_Reader_sign hr (by first | decide | omega) px (pv 0)) (pe_sl [44]) (nomark _)) (pss_one (ps_expr (pe_mt0 m_Reader_wrong hr (by first | decide | omega) px (pv 0)))) pss_nil)
        (pss_one (ps_fldaug (pv 0) pe_int in_add)))))))), ?_⟩
  try simp only [cxK]
  have hc := S.cls "Reader"
  have n1 := S.noat "Reader" "text"
  have n2 := S.noat "Reader" "place"
  have n3 := S.noat "Reader" "levels"
  generalize hR0 : Tx.parse l = R at hQ hE
  have hR : Tx.exq [] (l.drop 0) 0 = R := (Tx.exq_start l).trans hR0
  have raise : ∀ (q : Nat) (as : List Addr) (L : List (List PyData)) (H1 : Hp) (Q1 : VK), R = .inr q → RS K H0 H1 x dx lv l q as L → spWrong K [.ref x] H1 Q1 E := fun q as L H1 Q1 hb h1 =>
    ⟨x, dx, l, q, lv, rfl, h1.ro, fun d H' x' e => hE q d H' hb (Evl.Ex.trans h1.ex x') e⟩
  walk_at "r"
  refine ⟨fun m σ H' => ∃ (p : Nat) (as : List Addr) (L : List (List PyData)) (u : Option V), σ = [some (.ref x), u] ∧ RS K H0 H' x dx lv l p as L ∧ Bd L p ∧ Tx.exq L (l.drop p) p = R ∧ m = l.length + 1 - p, ⟨_, 0, [], [], none, rfl, hs, fun _ h => (nomatch h), hR, rfl⟩, ?_⟩
  clear hs hR
  rintro m σ H1 ⟨p, as, L, u, rfl, hs, hb, hR, rfl⟩
  have hp := hs.pl
  have ro1 := hs.ro
  walk_at "r"
  refine ⟨fun σ H' => ∃ (p2 : Nat) (as : List Addr) (L : List (List PyData)) (u : Option V), σ = [some (.ref x), u] ∧ RS K H0 H' x dx lv l p2 as L ∧ Bd L p2 ∧ p < p2 ∧ Tx.exq L (l.drop p2) p2 = R, ?_, ?_⟩
  · rintro σ' H' ⟨p2, as, L, u, a1, a2, a3, a4, a5⟩
    exact ⟨l.length + 1 - p2, by omega, p2, as, L, u, a1, a2, a3, a5, rfl⟩
  · refine ⟨fun σ H' => ∃ (p2 : Nat) (as : List Addr) (L : List (List PyData)) (v : V) (d : PyData), σ = [some (.ref x), some v] ∧ RS K H0 H' x dx lv l p2 as L ∧ (∀ acc ∈ L, acc.length < p2) ∧ p ≤ p2 ∧ TD H' v d ∧ Tx.fin L d (l.drop p2) p2 = R, ?_, ?_⟩
    · walk_at "r"
      refine ⟨H0, x, dx, lv, l, p, as, L, R, rfl, hs, hb, hl, hR, ?_, ?_, hE⟩
      · intro H2 p2 as2 LB hs2 hb2 hpp hR2 hne
        have ro2 := hs2.ro
        walk_at "r"
        rw [Tx.exq_plain _ _ _ hne] at hR2
        have hle : (Tx.PW (l.drop p2) p2).le (l.drop p2) p2 := by
          rw [← Tx.PV_PW 0 _ _ hne]
          exact Tx.PV_le _ _ _
        have hsuf : (Tx.PW (l.drop p2) p2).suf (l.drop p2) p2 := by
          rw [← Tx.PV_PW 0 _ _ hne]
          exact Tx.PV_suf _ _ _
        generalize hPW : Tx.PW (l.drop p2) p2 = RR at hR2 hle hsuf
        refine ⟨x, dx, l, p2, lv, rfl, hs2.ro, hl, hs2.pl, ?_, ?_⟩
        · intro d r q v H3 e y3 hx3 hd
          rw [hPW] at e
          subst e
          obtain ⟨h1, h2⟩ := hle
          obtain ⟨h3, h4⟩ := hsuf
          have hpl := hs2.pl
          rw [List.length_drop] at h1 h2
          have hq : q ≤ l.length := by omega
          have er : r = l.drop q := by
            rw [h4, List.drop_drop]
            congr 1
            omega
          rw [er] at hR2
          walk_at "r"
          exact ⟨q, as2, LB, v, d, rfl, hs2.step y3 hx3 hq, fun acc h => by have := hb2 acc h; omega, by omega, hd, hR2⟩
        · intro q e d H3 y3 h3
          rw [hPW] at e
          subst e
          exact hE q d H3 hR2.symm (fun b o e => y3 b o (fun z => by rw [z, hs2.x0] at e; cases e) (hs2.ex b o e)) h3
      · intro H2 p2 as2 LB hs2 hb2 hpp hR2
        have ro2 := hs2.ro
        walk_at "r"
        refine r_tyL hs2.lvl ?_
        cases as2 with
        | nil => cases hs2.els
        | cons a as3 =>
          refine r_popL hs2.lvl ?_
          obtain ⟨hs3, xs, hxa, hxs⟩ := hs2.pop
          generalize L2.upd H2 lv (.lst (as3.reverse.map V.ref)) = H3 at hs3 hxa hxs
          walk_at "r"
          refine r_tupOfL (SqL.of hxa) fun t ht => ?_
          have x4 : Ex H3 (L2.upd H3 t (.tup xs)) := Evl.Ex.new ht
          walk_at "r"
          exact ⟨p2 + 1, as3, LB, .ref t, .tuple [], rfl, hs3.more x4, fun acc h => by have := hb2 acc h; omega, by omega, .tup upd_same (hxs.kt (Ex.kt x4)), hR2⟩
    · clear hs hb hR
      rintro σ H2 ⟨p2, as, L, v, d, rfl, hs, hb, hpp, hd, hR⟩
      refine ⟨fun σ H' => ∃ (p2 : Nat) (as : List Addr) (L : List (List PyData)) (v : V) (d : PyData), σ = [some (.ref x), some v] ∧ RS K H0 H' x dx lv l p2 as L ∧ Bd L p2 ∧ p ≤ p2 ∧ TD H' v d ∧
          ((L = [] ∧ Tx.fin [] d (l.drop p2) p2 = R) ∨ ∃ acc L1, L = (acc ++ [d]) :: L1 ∧ Tx.fin (acc :: L1) d (l.drop p2) p2 = R ∧ ∀ r, l.drop p2 ≠ 41 :: r), ?_, ?_⟩
      · walk_at "r"
        refine ⟨fun m σ H' => ∃ (p2 : Nat) (as : List Addr) (L : List (List PyData)) (v : V) (d : PyData), σ = [some (.ref x), some v] ∧ RS K H0 H' x dx lv l p2 as L ∧ (∀ acc ∈ L, acc.length < p2) ∧ p ≤ p2 ∧ TD H' v d ∧ Tx.fin L d (l.drop p2) p2 = R ∧ m = L.length, ⟨_, p2, as, L, v, d, rfl, hs, hb, hpp, hd, hR, rfl⟩, ?_⟩
        clear hs hb hpp hd hR
        rintro m σ H3 ⟨p2, as, L, v, d, rfl, hs, hb, hpp, hd, hR, rfl⟩
        have ro3 := hs.ro
        have hp2 := hs.pl
        walk_at "r"
        have hlen : ((as.reverse.map V.ref).length : Int) = (L.length : Nat) := by
          rw [List.length_map, List.length_reverse, hs.els.len]
        refine r_lenL (SqL.of hs.lvl) ?_
        rw [hlen]
        walk_at "r"
        refine itd (fun h1 => ?_) (fun h1 => ?_)
        · cases hels : hs.els with
          | nil => simp at h1
          | @cons a as acc L xs hxa hxs hel =>
            refine ⟨fun σ H' => ∃ (p3 : Nat) (as' : List Addr) (v : V) (d : PyData), σ = [some (.ref x), some v] ∧ RS K H0 H' x dx lv l p3 as' L ∧ (∀ acc ∈ L, acc.length < p3) ∧ p ≤ p3 ∧ TD H' v d ∧ Tx.fin L d (l.drop p3) p3 = R, ?_, ?_⟩
            · rintro σ' H' ⟨p3, as', v, d, a1, a2, a3, a4, a5, a6⟩
              exact ⟨L.length, by simp, p3, as', L, v, d, a1, a2, a3, a4, a5, a6, rfl⟩
            · walk_at "r"
              have hlv := hs.lvl
              rw [show (a :: as).reverse.map V.ref = as.reverse.map V.ref ++ [V.ref a] by simp] at hlv
              refine r_ixL (SqL.of hlv) (atI_last _ _) ?_
              walk_at "r"
              refine r_tyL hxa ?_
              walk_at "r"
              have hxl := hxs.len
              have hbd := hb acc (List.mem_cons_self ..)
              refine ⟨a, xs, v, rfl, rfl, hxa, by rw [sizeLine_eq]; omega, ?_⟩
              have hs4 := hs.app hxa hxs hd
              have hd4 : TD (L2.upd H3 a (.lst (xs ++ [v]))) v d := hd.kt (KT.upd fun ys z => by rw [hxa] at z; cases z)
              generalize L2.upd H3 a (.lst (xs ++ [v])) = H4 at hs4 hd4
              have ro4 := hs4.ro
              walk_at "r"
              refine ⟨x, dx, l, p2, lv, rfl, hs4.ro, hl, hs4.pl, ?_⟩
              have out : (∀ r, l.drop p2 ≠ 41 :: r) → ∃ (p3 : Nat) (as' : List Addr) (L' : List (List PyData)) (v' : V) (d' : PyData), [some (V.ref x), some v] = [some (.ref x), some v'] ∧ RS K H0 H4 x dx lv l p3 as' L' ∧ Bd L' p3 ∧ p ≤ p3 ∧ TD H4 v' d' ∧
                  ((L' = [] ∧ Tx.fin [] d' (l.drop p3) p3 = R) ∨ ∃ acc L1, L' = (acc ++ [d']) :: L1 ∧ Tx.fin (acc :: L1) d' (l.drop p3) p3 = R ∧ ∀ r, l.drop p3 ≠ 41 :: r) := fun hne =>
                ⟨p2, _, _, v, d, rfl, hs4, fun acc' h => by
                  rcases List.mem_cons.mp h with rfl | h
                  · simp; omega
                  · have := hb acc' (List.mem_cons_of_mem _ h); omega, hpp, hd4, .inr ⟨acc, L, rfl, hR, hne⟩⟩
              by_cases h3 : p2 < l.length
              · obtain ⟨c, hc1, hc2, hc3⟩ := drop_at h3
                rw [take1 hc3]
                walk_at "r"
                refine itn (fun h4 => ?_) (fun h4 => ?_)
                · walk_at "r"
                  exact out fun r z => h4 (by rw [hc3] at z; exact (List.cons.inj z).1)
                · subst h4
                  rw [hc3, Tx.fin_close] at hR
                  walk_at "r"
                  refine r_tyL hs4.lvl ?_
                  refine r_popL hs4.lvl ?_
                  obtain ⟨hs5, ys, hya, hys⟩ := hs4.pop
                  generalize L2.upd H4 lv (.lst (as.reverse.map V.ref)) = H5 at hs5 hya hys
                  walk_at "r"
                  refine r_tupOfL (SqL.of hya) fun t ht => ?_
                  have x6 : Ex H5 (L2.upd H5 t (.tup ys)) := Evl.Ex.new ht
                  have hs6 := hs5.more x6
                  have hd6 : TD (L2.upd H5 t (.tup ys)) (.ref t) (.tuple (acc ++ [d])) := .tup upd_same (hys.kt (Ex.kt x6))
                  generalize L2.upd H5 t (.tup ys) = H6 at hs6 hd6
                  have ro6 := hs6.ro
                  walk_at "r"
                  refine r_adv hs6.ro hc n2 fun H7 hx7 y7 => ?_
                  walk_at "r"
                  exact ⟨p2 + 1, as, _, _, rfl, hs6.step y7 hx7 (by omega), fun acc' h => by have := hb acc' (List.mem_cons_of_mem _ h); omega, by omega, hd6.kt (Xe1.kt y7 hs6.ro fun xs z => by cases z), hR⟩
              · rw [show (l.drop p2).take 1 = [] by rw [drop_end (by omega)]; rfl]
                walk_at "r"
                refine itn (fun h4 => ?_) (fun h4 => by cases h4)
                walk_at "r"
                exact out fun r z => by rw [drop_end (by omega)] at z; cases z
        · have hL0 : L = [] := List.length_eq_zero_iff.mp (by omega)
          subst hL0
          exact ⟨p2, as, [], v, d, rfl, hs, fun _ h => (nomatch h), hpp, hd, .inl ⟨rfl, hR⟩⟩
      · clear hs hb hpp hd hR
        rintro σ H3 ⟨p2, as, L, v, d, rfl, hs, hb, hpp, hd, hR⟩
        have ro3 := hs.ro
        have hp2 := hs.pl
        walk_at "r"
        have hlen : ((as.reverse.map V.ref).length : Int) = (L.length : Nat) := by
          rw [List.length_map, List.length_reverse, hs.els.len]
        refine r_lenL (SqL.of hs.lvl) ?_
        rw [hlen]
        walk_at "r"
        rcases hR with ⟨rfl, hR⟩ | ⟨acc, L1, rfl, hR, hne⟩
        · refine itd (fun _ => ?_) (fun z => absurd rfl z)
          walk_at "r"
          refine ⟨x, dx, l, p2, lv, rfl, hs.ro, hl, hs.pl, ?_⟩
          by_cases h3 : p2 < l.length
          · obtain ⟨c, hc1, hc2, hc3⟩ := drop_at h3
            rw [take1 hc3]
            rw [hc3, Tx.fin_more] at hR
            walk_at "r"
            refine itn (fun h4 => ?_) (fun h4 => by cases h4)
            walk_at "r"
            exact raise p2 as _ H3 _ hR.symm hs
          · rw [show (l.drop p2).take 1 = [] by rw [drop_end (by omega)]; rfl]
            rw [drop_end (by omega), Tx.fin_end] at hR
            walk_at "r"
            refine itn (fun h4 => absurd rfl h4) (fun _ => ?_)
            walk_at "r"
            exact hQ v d H3 hR.symm hs.ex hd
        · refine itd (fun z => by simp at z; omega) (fun _ => ?_)
          walk_at "r"
          refine ⟨x, dx, l, p2, lv, rfl, hs.ro, hl, hs.pl, ?_⟩
          by_cases h3 : p2 < l.length
          · obtain ⟨c, hc1, hc2, hc3⟩ := drop_at h3
            rw [take1 hc3]
            walk_at "r"
            refine itn (fun h4 => ?_) (fun h4 => ?_)
            · rw [Tx.fin_other _ _ _ _ _ hne (fun r z => h4 (by rw [hc3] at z; exact (List.cons.inj z).1))] at hR
              walk_at "r"
              exact raise p2 as _ H3 _ hR.symm hs
            · subst h4
              rw [hc3, Tx.fin_comma] at hR
              walk_at "r"
              refine r_adv hs.ro hc n2 fun H4 hx4 y4 => ?_
              walk_at "r"
              exact ⟨p2 + 1, as, _, _, rfl, hs.step y4 hx4 (by omega), fun acc' h => by have := hb acc' h; omega, by omega, hR⟩
          · rw [show (l.drop p2).take 1 = [] by rw [drop_end (by omega)]; rfl]
            rw [Tx.fin_other _ _ _ _ _ hne (fun r z => by rw [drop_end (by omega)] at z; cases z)] at hR
            walk_at "r"
            refine itn (fun h4 => ?_) (fun h4 => by cases h4)
            walk_at "r"
            exact raise p2 as _ H3 _ hR.symm hs
end
end K54
--@law law_k54_whole_things_as_texts h54.json
set_option Elab.async false
set_option linter.all false
set_option maxRecDepth 100000
set_option maxHeartbeats 4000000
namespace K54
open PySem PySem.Spec PyProof.Rows L2 KB
open SX (S)
local macro_rules | `(tactic| walk_at "s") => `(tactic| first
  | with_reducible refine r_seq ?_
  | with_reducible refine r_set ?_
  | ((with_reducible show tVar _ _ _ _); refine r_var rfl ?_)
  | with_reducible refine r_c ?_
  | with_reducible refine r_op ?_
  | with_reducible refine r_cb ?_
  | with_reducible refine r_cons ?_
  | with_reducible refine r_nil ?_
  | with_reducible refine r_test ?_
  | with_reducible refine r_if ?_
  | with_reducible refine r_I0 ?_
  | with_reducible refine r_eqS1 ?_
  | with_reducible refine r_neS1 ?_
  | with_reducible refine r_eqSL ?_
  | with_reducible refine r_neSL ?_
  | with_reducible refine r_eqI ?_
  | ((with_reducible show rEq _ _ _ _); refine r_eq ?_)
  | ((with_reducible show rNe _ _ _ _); refine r_ne ?_)
  | with_reducible refine r_bl ?_
  | with_reducible refine r_blV ?_
  | with_reducible refine r_intV ?_
  | with_reducible refine r_ret ?_
  | with_reducible refine r_next ?_
  | with_reducible refine r_callS ?_
  | with_reducible refine r_call ?_
  | with_reducible refine r_asg ?_
  | with_reducible refine r_drop ?_
  | with_reducible refine r_retN ?_
  | with_reducible refine r_un ?_
  | with_reducible refine r_U ?_
  | with_reducible refine r_tup ?_
  | with_reducible refine r_lst ?_
  | with_reducible refine r_andV ?_
  | with_reducible refine r_orV ?_
  | with_reducible refine r_notV ?_
  | with_reducible refine r_ifE ?_
  | with_reducible refine r_meth ?_
  | with_reducible refine r_make ?_
  | with_reducible refine r_fld ?_
  | with_reducible refine r_sl ?_
  | with_reducible refine r_nop ?_
  | with_reducible refine r_part ?_
  | with_reducible refine r_B ?_
  | with_reducible refine r_and ?_
  | with_reducible refine r_or ?_
  | with_reducible refine r_not ?_
  | with_reducible refine r_chain ?_
  | with_reducible refine r_bm0 ?_
  | with_reducible refine r_bm ?_
  | with_reducible refine r_m1 ?_
  | with_reducible refine r_gname ?_
  | with_reducible refine r_gnil ?_
  | with_reducible refine r_gcons ?_
  | with_reducible refine r_gsub ?_
  | with_reducible refine r_sfld ?_
  | with_reducible refine r_faug ?_
  | with_reducible refine r_rAdd ?_
  | with_reducible refine r_rSub ?_
  | with_reducible refine r_ilist ?_
  | with_reducible refine r_itup ?_
  | with_reducible refine r_irng1 ?_
  | with_reducible refine r_lc ?_
  | with_reducible refine r_for ?_
  | with_reducible refine r_istr ?_
  | with_reducible refine r_isN ?_
  | with_reducible refine r_isnN ?_
  | with_reducible refine r_abs ?_
  | with_reducible refine r_int1 ?_
  | with_reducible refine r_leS ?_
  | with_reducible refine r_brk ?_
  | with_reducible refine r_strV ?_
  | with_reducible refine iteT ?_
  | with_reducible refine iteF ?_
  | with_reducible refine itT ?_
  | with_reducible refine itF ?_
  | ((with_reducible show rLenS _ _ _); refine r_lenS (by omega) ?_)
  | ((with_reducible show rAddS _ _ _ _); refine r_addS (by first | omega | (simp only [List.length_append, List.length_cons, List.length_nil]; omega)) ?_)
  | with_reducible refine r_inSg ?_
  | with_reducible refine r_notInSg ?_
  | with_reducible refine r_strE ?_
  | with_reducible refine r_szle (by first | decide | (simp only [List.length_cons, List.length_nil]; omega)) ?_
  | with_reducible refine r_revS ?_
  | ((with_reducible show rIxL _ (.ref _) (.int _) _ _); apply r_ixL; (· walk_at "sq"); (· exact rfl))
  | ((with_reducible show rIxT _ (.ref _) (.int _) _ _); apply r_ixT; (· walk_at "sq"); (· exact rfl))
  | ((with_reducible show rLenSq _ [.ref _] _ _); first | (apply r_lenL; (· walk_at "sq")) | (apply r_lenT; (· walk_at "sq")))
  | ((with_reducible show rI _ _ (.int _) (.int _) _ _); refine r_I (by walk_at "ar") ?_)
  | with_reducible refine r_ct ?_)
local macro_rules | `(tactic| walk_at "sq") => `(tactic| first
  | assumption
  | exact SqL.of (by assumption)
  | exact SqT.of (by assumption)
  | exact SqL.of upd_same
  | exact SqT.of upd_same)
local macro_rules | `(tactic| walk_at "ar") => `(tactic| first
  | exact Or.inl ⟨by omega, by omega⟩
  | exact Or.inr ⟨by omega, by omega⟩
  | exact ⟨by omega, by omega⟩
  | exact ⟨by decide, by decide, by decide⟩
  | (show (0 : Int) < _; omega)
  | omega)
local macro_rules | `(tactic| walk_at "r") => `(tactic| repeat walk_at "s")

section
variable {P : Program} {w : World} {K : PySem.W.Frag} {mg : Str → Option Value} {base : Heap}
local macro_rules | `(tactic| walk_at "s") => `(tactic| first
  | with_reducible refine r_ft (by assumption) (by assumption) (by assumption) ?_
  | with_reducible refine r_fp (by assumption) (by assumption) (by assumption) ?_
  | with_reducible refine r_fl (by assumption) (by assumption) (by assumption) ?_
  | with_reducible refine r_mx (by assumption) (no_m (by decide) (by decide) (by decide)) ?_)
def spReadThing (K : PySem.W.Frag) : Sp := fun vs H Q E => ∃ v, vs = [v] ∧ ((∃ l : List Nat, v = .str (SX.S l) ∧ l.length ≤ 100000 ∧ (∀ v d H', Tx.parse l = .inl d → Ex H H' → TD H' v d → Q v H') ∧ EndE K H E (Tx.parse l)) ∨
  (∃ g, GR H v g ∧ (∀ l, g ≠ .str l) ∧ ∀ (d : Addr) (H' : Hp), Ex H H' → H' d = some (.xd [("place", .int (-1))]) → E (.ref (aBad K)) (some d) H'))
theorem c_read_thing (S : C54 K mg) (B : PySem.BadX.BadTxt P K mg (aBad K) (He.fAd K pB)) : Cal P w K mg base 9 "read_thing" (spReadThing K) := by
  have k_Reader := k_Reader (P := P) (w := w) (base := base) S
  have m_Reader_read := m_Reader_read (P := P) (w := w) (base := base) S B
  refine cal_of S (k := 8) (st := s_read_thing) (by simp [fn, d_read_thing]) (by decide +kernel) sc_read_thing bd_read_thing (fun vs H Q E ⟨v, h, _⟩ => by rw [h] <;> rfl) fun f cdv A outer s H vs Q E tk px hr h => ?_
  obtain ⟨v, rfl, h⟩ := h
  refine ⟨_, (pss_cons (ps_if (pt_not (pt_val (pe_callB call_isi (by rfl) (S.free "isinstance") (by decide +kernel) (pa_cons (pv 0) (pa_cons (pe_ty "str" rfl (S.free "str") (by decide +kernel)) pa_nil))))) (pss_one (ps_raise rfl tk (pmk_BadText B hr (pa_cons (pe_un un_neg pe_int) pa_nil)))) pss_nil)
      (pss_one (ps_ret (pe_mt0 m_Reader_read hr (by first | decide | omega) px (pe_mk k_Reader hr (by first | decide | omega) px (pa_cons (pv 0) pa_nil)))))), ?_⟩
  try simp only [cxK]
  rcases h with ⟨l, rfl, hl, hQ, hE⟩ | ⟨g, hg, hs, hE⟩
  · walk_at "r"
    refine isi .str (GR.isK (.str l)) ?_
    rw [show isT (G.str l).kd .str = true from rfl]
    walk_at "r"
    intro x dx hx hdx hne
    have x1 : Ex H (L2.upd (L2.upd H dx (.own x)) x (.ins (aR K) dx [])) := Evl.Ex.mut (Evl.Ex.new hdx) hx
    refine ⟨x, dx, l, rfl, upd_same, fun lv H2 hlv y2 ro hll => ?_⟩
    refine ⟨rfl, ?_⟩
    walk_at "r"
    have hlx : lv ≠ x := fun z => by rw [z, upd_same] at hlv; cases hlv
    have x2 : Ex H H2 := fun b o e => y2 b o (fun z => by rw [z, hx] at e; cases e) (x1 b o e)
    refine ⟨H, x, dx, lv, l, rfl, ⟨x2, hx, Evl.fresh_back x1 hlv, hlx, ro, Nat.zero_le _, hll, .nil, fun _ h => (nomatch h), .nil, by simp⟩, hl, hQ, hE⟩
  · walk_at "r"
    refine isi .str (GR.isK hg) ?_
    have e : isT g.kd .str = false := by
      cases g with
      | str l => exact absurd rfl (hs l)
      | _ => rfl
    rw [e]
    walk_at "r"
    show tCons (tUn (rU fun i => V.int (-i)) (tC (V.int 1))) tNil _ H _
    walk_at "r"
    exact ⟨_, rfl, fun d hd => hE d _ (Evl.Ex.new hd) upd_same⟩
theorem pss_when {X : Cx} {ss : List Stmt} {t : TS} {A : Prop} (h : A → PSs X ss t) : PSs X ss (fun D σ H => A ∧ t D σ H) :=
  ⟨fun pins s σ H D I q => (h q.1).run pins s σ H D I q.2⟩
def spTold (K : PySem.W.Frag) : Sp := fun vs H Q _ => ∃ v, vs = [v] ∧ ((∃ l : List Nat, v = .str (SX.S l) ∧ l.length ≤ 100000 ∧ ∀ q H', Ex H H' → OutP H' q (Tx.parse l) → Q (.ref q) H') ∨
  (∃ g, GR H v g ∧ (∀ l, g ≠ .str l) ∧ ∀ q H', Ex H H' → H' q = some (.tup [.str (SX.S [119, 114, 111, 110, 103]), .int (-1)]) → Q (.ref q) H'))
theorem c_law_told (S : C54 K mg) (B : PySem.BadX.BadTxt P K mg (aBad K) (He.fAd K pB)) (R : HB.Errs K) : Cal P w K mg base 10 "_law_told" (spTold K) := by
  have c_read_thing := c_read_thing (P := P) (w := w) (base := base) S B
  refine cal_of S (k := 9) (st := s_law_told) (by simp [fn, d_law_told]) (by decide +kernel) sc_law_told bd_law_told (fun vs H Q E ⟨v, h, _⟩ => by rw [h] <;> rfl) fun f cdv A outer s H vs Q E tk px hr h => ?_
  obtain ⟨v, rfl, h⟩ := h
  refine ⟨_, (pss_cons (ps_set (i := 1) sc_law_told.nd rfl (by first | exact Or.inl rfl | exact Or.inr rfl) (pe_tup (pa_cons (pe_sl [111, 116, 104, 101, 114]) (pa_cons pe_non pa_nil))))
    (pss_cons (ps_try_asmany rfl rfl tk (fun W pn xe tk ho => (pss_one (ps_set (i := 1) sc_law_told.nd rfl (by first | exact Or.inl rfl | exact Or.inr rfl) (pe_tup (pa_cons (pe_sl [116, 104, 105, 110, 103]) (pa_cons (pe_cS c_read_thing hr (by decide) tk (pa_cons (pv 0) pa_nil)) pa_nil))))))
        (fun D => .as_ (i := 2) sc_law_told.nd rfl rfl ⟨rfl, by decide, .inl (S.glo "BadText")⟩ (fun a oe cls d pn hz hf => (pss_one (ps_set (i := 1) sc_law_told.nd rfl (by first | exact Or.inl rfl | exact Or.inr rfl) (pe_tup (pa_cons (pe_sl [119, 114, 111, 110, 103]) (pa_cons (pe_xf R.xf R.noPl hz hf (pv 2)) pa_nil))))))
          (.cons ⟨rfl, by decide, .inl (S.glo "MissError")⟩ (fun a oe cls d pn hz hf => (pss_one (ps_set (i := 1) sc_law_told.nd rfl (by first | exact Or.inl rfl | exact Or.inr rfl) (pe_tup (pa_cons (pe_sl [111, 116, 104, 101, 114]) (pa_cons pe_non pa_nil)))))) .nil)))
      (pss_one (ps_ret (pv 1))))), ?_⟩
  try simp only [cxK]
  walk_at "r"
  intro p0 hp0
  generalize hU : L2.upd H p0 _ = H1
  have x1 : Ex H H1 := hU ▸ Evl.Ex.new hp0
  walk_at "r"
  rcases h with ⟨l, rfl, hl, hQ⟩ | ⟨g, hg, hns, hQ⟩
  · refine ⟨_, rfl, .inl ⟨l, rfl, hl, fun v d H2 hpz x2 hd => ?_, fun q d H2 hpz x2 hd => ?_⟩⟩
    · walk_at "r"
      intro p3 hp3
      walk_at "r"
      refine hQ p3 _ (Evl.Ex.trans (Evl.Ex.trans x1 x2) (Evl.Ex.new hp3)) ?_
      rw [hpz]
      exact ⟨v, upd_same, hd.kt (Ex.kt (Evl.Ex.new hp3))⟩
    · refine ⟨true, R.bb, fun _ a ha => ?_, fun z => by cases z⟩
      walk_at "r"
      refine ⟨_, rfl, rfl, rfl, d, _, _, rfl, hd, rfl, ?_⟩
      walk_at "r"
      intro p3 hp3
      walk_at "r"
      refine hQ p3 _ (Evl.Ex.trans (Evl.Ex.trans x1 x2) (Evl.Ex.new hp3)) ?_
      rw [hpz]
      exact upd_same
  · refine ⟨_, rfl, .inr ⟨g, hg.kg (Ex.kg x1), hns, fun d H2 x2 hd => ?_⟩⟩
    refine ⟨true, R.bb, fun _ a ha => ?_, fun z => by cases z⟩
    walk_at "r"
    refine ⟨_, rfl, rfl, rfl, d, _, _, rfl, hd, rfl, ?_⟩
    walk_at "r"
    intro p3 hp3
    walk_at "r"
    exact hQ p3 _ (Evl.Ex.trans (Evl.Ex.trans x1 x2) (Evl.Ex.new hp3)) upd_same
def spIsNone : Sp := fun vs H Q _ => ∃ v g, vs = [v] ∧ GR H v g ∧ gSz g ≤ 100000 ∧ gTh g 30 = false ∧ ∀ H', Ex H H' → Q (.bl true) H'
theorem c_law_is_none (S : C54 K mg) (R : HB.Errs K) : Cal P w K mg base 37 "_law_is_none" spIsNone := by
  have c_thing_text := c_thing_text (P := P) (w := w) (base := base) S
  refine cal_of S (k := 36) (st := s_law_is_none) (by simp [fn, d_law_is_none]) (by decide +kernel) sc_law_is_none bd_law_is_none (fun vs H Q E ⟨v, g, h, _⟩ => by rw [h] <;> rfl) fun f cdv A outer s H vs Q E tk px hr h => ?_
  obtain ⟨v, g, rfl, hg, hz, hth, hQ⟩ := h
  refine ⟨_, (pss_cons (ps_set (i := 1) sc_law_is_none.nd rfl (by first | exact Or.inl rfl | exact Or.inr rfl) pe_bl)
    (pss_cons (ps_try_asmany rfl rfl tk (fun W pn xe tk ho => (pss_one (ps_expr (pe_cS c_thing_text hr (by decide) tk (pa_cons (pv 0) pa_nil)))))
        (fun D => .as_ (i := 2) sc_law_is_none.nd rfl rfl ⟨rfl, by decide, .inl (S.glo "NoThing")⟩ (fun a oe cls d pn hz hf => pss_when (A := cls = Value.ref (He.ga K "NoThing") ∧ d = none) fun hh =>
            (pss_one (ps_set (i := 1) sc_law_is_none.nd rfl (by first | exact Or.inl rfl | exact Or.inr rfl) (pe_callB (call_isE (a := a) R.ec (by obtain ⟨h1, h2⟩ := hh; subst h1 h2; exact hz) hf) (by rfl) (S.free "isinstance") (by decide +kernel) (pa_cons (pv 2) (pa_cons (pe_k (by rfl) (S.gl "MissError")) pa_nil))))))
          .nil))
      (pss_one (ps_ret (pv 1))))), ?_⟩
  try simp only [cxK]
  walk_at "r"
  refine ⟨v, g, rfl, hg, hz, .inr ⟨hth, fun H1 x1 => ?_⟩⟩
  refine ⟨true, R.nn, fun _ a ha => ⟨⟨rfl, rfl⟩, ?_⟩, fun z => by cases z⟩
  walk_at "r"
  refine ⟨_, _, true, rfl, fun u hu => hu, R.nm, ?_⟩
  walk_at "r"
  exact hQ H1 x1
end
end K54
--@law law_k54_whole_things_as_texts h54.json
set_option Elab.async false
set_option linter.all false
set_option maxRecDepth 100000
set_option maxHeartbeats 4000000
namespace K54
open PySem PySem.Spec PyProof.Rows L2 KB
open SX (S)
local macro_rules | `(tactic| walk_at "s") => `(tactic| first
  | with_reducible refine r_seq ?_
  | with_reducible refine r_set ?_
  | ((with_reducible show tVar _ _ _ _); refine r_var rfl ?_)
  | with_reducible refine r_c ?_
  | with_reducible refine r_op ?_
  | with_reducible refine r_cb ?_
  | with_reducible refine r_cons ?_
  | with_reducible refine r_nil ?_
  | with_reducible refine r_test ?_
  | with_reducible refine r_if ?_
  | with_reducible refine r_I0 ?_
  | with_reducible refine r_eqS1 ?_
  | with_reducible refine r_neS1 ?_
  | with_reducible refine r_eqSL ?_
  | with_reducible refine r_neSL ?_
  | with_reducible refine r_eqI ?_
  | ((with_reducible show rEq _ _ _ _); refine r_eq ?_)
  | ((with_reducible show rNe _ _ _ _); refine r_ne ?_)
  | with_reducible refine r_bl ?_
  | with_reducible refine r_blV ?_
  | with_reducible refine r_intV ?_
  | with_reducible refine r_ret ?_
  | with_reducible refine r_next ?_
  | with_reducible refine r_callS ?_
  | with_reducible refine r_call ?_
  | with_reducible refine r_asg ?_
  | with_reducible refine r_drop ?_
  | with_reducible refine r_retN ?_
  | with_reducible refine r_un ?_
  | with_reducible refine r_U ?_
  | with_reducible refine r_tup ?_
  | with_reducible refine r_lst ?_
  | with_reducible refine r_andV ?_
  | with_reducible refine r_orV ?_
  | with_reducible refine r_notV ?_
  | with_reducible refine r_ifE ?_
  | with_reducible refine r_meth ?_
  | with_reducible refine r_make ?_
  | with_reducible refine r_fld ?_
  | with_reducible refine r_sl ?_
  | with_reducible refine r_nop ?_
  | with_reducible refine r_part ?_
  | with_reducible refine r_B ?_
  | with_reducible refine r_and ?_
  | with_reducible refine r_or ?_
  | with_reducible refine r_not ?_
  | with_reducible refine r_chain ?_
  | with_reducible refine r_bm0 ?_
  | with_reducible refine r_bm ?_
  | with_reducible refine r_m1 ?_
  | with_reducible refine r_gname ?_
  | with_reducible refine r_gnil ?_
  | with_reducible refine r_gcons ?_
  | with_reducible refine r_gsub ?_
  | with_reducible refine r_sfld ?_
  | with_reducible refine r_faug ?_
  | with_reducible refine r_rAdd ?_
  | with_reducible refine r_rSub ?_
  | with_reducible refine r_ilist ?_
  | with_reducible refine r_itup ?_
  | with_reducible refine r_irng1 ?_
  | with_reducible refine r_lc ?_
  | with_reducible refine r_for ?_
  | with_reducible refine r_istr ?_
  | with_reducible refine r_isN ?_
  | with_reducible refine r_isnN ?_
  | with_reducible refine r_abs ?_
  | with_reducible refine r_int1 ?_
  | with_reducible refine r_leS ?_
  | with_reducible refine r_brk ?_
  | with_reducible refine r_strV ?_
  | with_reducible refine iteT ?_
  | with_reducible refine iteF ?_
  | with_reducible refine itT ?_
  | with_reducible refine itF ?_
  | ((with_reducible show rLenS _ _ _); refine r_lenS (by omega) ?_)
  | ((with_reducible show rAddS _ _ _ _); refine r_addS (by first | omega | (simp only [List.length_append, List.length_cons, List.length_nil]; omega)) ?_)
  | with_reducible refine r_inSg ?_
  | with_reducible refine r_notInSg ?_
  | with_reducible refine r_strE ?_
  | with_reducible refine r_szle (by first | decide | (simp only [List.length_cons, List.length_nil]; omega)) ?_
  | with_reducible refine r_revS ?_
  | ((with_reducible show rIxL _ (.ref _) (.int _) _ _); apply r_ixL; (· walk_at "sq"); (· exact rfl))
  | ((with_reducible show rIxT _ (.ref _) (.int _) _ _); apply r_ixT; (· walk_at "sq"); (· exact rfl))
  | ((with_reducible show rLenSq _ [.ref _] _ _); first | (apply r_lenL; (· walk_at "sq")) | (apply r_lenT; (· walk_at "sq")))
  | ((with_reducible show rI _ _ (.int _) (.int _) _ _); refine r_I (by walk_at "ar") ?_)
  | with_reducible refine r_ct ?_)
local macro_rules | `(tactic| walk_at "sq") => `(tactic| first
  | assumption
  | exact SqL.of (by assumption)
  | exact SqT.of (by assumption)
  | exact SqL.of upd_same
  | exact SqT.of upd_same)
local macro_rules | `(tactic| walk_at "ar") => `(tactic| first
  | exact Or.inl ⟨by omega, by omega⟩
  | exact Or.inr ⟨by omega, by omega⟩
  | exact ⟨by omega, by omega⟩
  | exact ⟨by decide, by decide, by decide⟩
  | (show (0 : Int) < _; omega)
  | omega)
local macro_rules | `(tactic| walk_at "r") => `(tactic| repeat walk_at "s")

section
variable {P : Program} {w : World} {K : PySem.W.Frag} {mg : Str → Option Value} {base : Heap}
mutual
/-- _law_is_plain's answer -/
def isPl : G → Bool
  | .non => true
  | .int i => decide (i = 0)
  | .tup gs => isPls gs
  | .bl _ => false
  | .str _ => false
  | .lst => false
  | .dic => false
def isPls : List G → Bool
  | [] => true
  | g :: gs => match gs with
    | [] => isPl g
    | _ :: _ => false
end
def spPlain : Sp := fun vs H Q _ => ∃ v g, vs = [v] ∧ GR H v g ∧ ∀ H', Ex H H' → Q (.bl (isPl g)) H'
theorem c_law_is_plain (S : C54 K mg) : Cal P w K mg base 1 "_law_is_plain" spPlain := by
  refine cal_of S (k := 0) (st := s_law_is_plain) (by simp [fn, d_law_is_plain]) (by decide +kernel) sc_law_is_plain bd_law_is_plain (fun vs H Q E ⟨v, g, h, _⟩ => by rw [h] <;> rfl) fun f cdv A outer s H vs Q E tk px hr h => ?_
  obtain ⟨v, g, rfl, hg, hQ⟩ := h
  have hu : (A.deeper (envOfC "_law_is_plain" (defScope s_law_is_plain) s.heap.objs.size f cdv)).units < cLine := by have := hr.un; omega
  refine ⟨_, (pss_cons (ps_while (passes_of rfl) ((pw_and (pt_val (pe_callB call_isi (by rfl) (S.free "isinstance") (by decide +kernel) (pa_cons (pv 0) (pa_cons (pe_ty "tuple" (by rfl) (S.free "tuple") (by decide +kernel)) pa_nil)))) (pw_and1 (pt_cmpR op_eq (pe_callB call_lenSq (by rfl) (S.free "len") PySem.boot_len (pa_cons (pv 0) pa_nil)) pe_int (nomark _))))).pt (pss_one (ps_set (i := 0) sc_law_is_plain.nd rfl (by first | exact Or.inl rfl | exact Or.inr rfl) (pe_ix ix_tup (pv 0) pe_int (fun _ _ => rfl)))))
      (pss_one (ps_ret (pe_or (pe_cmpR op_isNn (pv 0) pe_non (nomark _)) (pe_or (pe_and (pe_callB call_isi (by rfl) (S.free "isinstance") (by decide +kernel) (pa_cons (pv 0) (pa_cons (pe_ty "tuple" (by rfl) (S.free "tuple") (by decide +kernel)) pa_nil))) (pe_one (pe_cmpR (op_eqE hu) (pv 0) (pe_tup pa_nil) (nomark _)))) (pe_one (pe_and (pe_not (pe_callB call_isi (by rfl) (S.free "isinstance") (by decide +kernel) (pa_cons (pv 0) (pa_cons (pe_ty "bool" (by rfl) (S.free "bool") (by decide +kernel)) pa_nil)))) (pe_one (pe_cmpR (op_eqZ hu) (pv 0) pe_int (nomark _)))))))))), ?_⟩
  try simp only [cxK]
  walk_at "r"
  generalize hP : isPl g = b at hQ
  refine ⟨fun m σ H' => ∃ v g, σ = [some v] ∧ H' = H ∧ GR H v g ∧ isPl g = b ∧ m = sizeOf g, ⟨_, v, g, rfl, rfl, hg, hP, rfl⟩, ?_⟩
  clear hg hP
  rintro m σ H1 ⟨v, g, rfl, rfl, hg, hP, rfl⟩
  have fin : (∀ g1, g ≠ .tup [g1]) → tRet (tOrV (tOp rIsN (tVar 0) (tC .non)) (tOrV (tAndV (tCB (rIsi K) (tCons (tVar 0) (tCons (tC (.ty "tuple")) tNil))) (tOp rEqE (tVar 0) (tTup tNil)))
      (tAndV (tNotV (tCB (rIsi K) (tCons (tVar 0) (tCons (tC (.ty "bool")) tNil)))) (tOp rEqZ (tVar 0) (tC (.int 0)))))) { nx := fun x H' => Q .non H', rt := Q } [some v] H1 := fun hne => by
    walk_at "r"
    refine itd (fun h1 => ?_) (fun h1 => ?_)
    · subst h1
      cases hg
      have e : b = true := hP.symm
      subst e
      exact hQ H1 fun _ _ h => h
    · walk_at "r"
      refine isi .tup (GR.isK hg) ?_
      walk_at "r"
      cases hg with
      | non => exact absurd rfl h1
      | bl k =>
        refine ite2 (fun z => by cases z) (fun _ => ?_)
        walk_at "r"
        refine isi .bl (GR.isK (.bl k)) ?_
        rw [show isT (G.bl k).kd .bl = true from rfl]
        walk_at "r"
        have e : b = false := hP.symm
        subst e
        exact hQ H1 fun _ _ h => h
      | int i =>
        refine ite2 (fun z => by cases z) (fun _ => ?_)
        walk_at "r"
        refine isi .bl (GR.isK (.int i)) ?_
        rw [show isT (G.int i).kd .bl = false from rfl]
        walk_at "r"
        refine ⟨0, rfl, .inl ⟨i, rfl, ?_⟩⟩
        have e : b = decide (i = 0) := hP.symm
        subst e
        exact hQ H1 fun _ _ h => h
      | str l =>
        refine ite2 (fun z => by cases z) (fun _ => ?_)
        walk_at "r"
        refine isi .bl (GR.isK (.str l)) ?_
        rw [show isT (G.str l).kd .bl = false from rfl]
        walk_at "r"
        refine ⟨0, rfl, .inr (.inr (.inl ⟨_, rfl, ?_⟩))⟩
        have e : b = false := hP.symm
        subst e
        exact hQ H1 fun _ _ h => h
      | @tup a xs gs ha hgs =>
        rw [show isT (G.tup gs).kd .tup = true from rfl]
        refine ite2 (fun _ => ?_) (fun z => absurd rfl z)
        walk_at "r"
        intro q hq
        have x2 : Ex H1 (L2.upd H1 q (.tup [])) := Evl.Ex.new hq
        refine ⟨a, q, xs, rfl, rfl, x2 _ _ ha, upd_same, ?_⟩
        walk_at "r"
        have hlen := hgs.len
        refine itd (fun h2 => ?_) (fun h2 => ?_)
        · have e0 : gs = [] := List.length_eq_zero_iff.mp (by omega)
          subst e0
          have e : b = true := hP.symm
          subst e
          exact hQ _ x2
        · walk_at "r"
          refine isi .bl (GR.isK ((GR.tup ha hgs).kg (Ex.kg x2))) ?_
          rw [show isT (G.tup gs).kd .bl = false from rfl]
          walk_at "r"
          refine ⟨0, rfl, .inr (.inr (.inr ⟨a, _, rfl, x2 _ _ ha, .inr (.inl ⟨_, rfl⟩), ?_⟩))⟩
          have e : b = false := by
            rw [← hP]
            cases gs with
            | nil => rw [List.length_nil] at hlen; omega
            | cons g1 gs => cases gs with
              | nil => exact absurd rfl (hne g1)
              | cons g2 gs => simp [isPl, isPls]
          subst e
          exact hQ _ x2
      | @lst a xs ha =>
        refine ite2 (fun z => by cases z) (fun _ => ?_)
        walk_at "r"
        refine isi .bl (GR.isK (GR.lst ha)) ?_
        rw [show isT G.lst.kd .bl = false from rfl]
        walk_at "r"
        refine ⟨0, rfl, .inr (.inr (.inr ⟨a, _, rfl, ha, .inl ⟨_, rfl⟩, ?_⟩))⟩
        have e : b = false := hP.symm
        subst e
        exact hQ H1 fun _ _ h => h
      | @dic a kvs ha =>
        refine ite2 (fun z => by cases z) (fun _ => ?_)
        walk_at "r"
        refine isi .bl (GR.isK (GR.dic ha)) ?_
        rw [show isT G.dic.kd .bl = false from rfl]
        walk_at "r"
        refine ⟨0, rfl, .inr (.inr (.inr ⟨a, _, rfl, ha, .inr (.inr ⟨_, rfl⟩), ?_⟩))⟩
        have e : b = false := hP.symm
        subst e
        exact hQ H1 fun _ _ h => h
  walk_at "r"
  refine isi .tup (GR.isK hg) ?_
  walk_at "r"
  cases hg with
  | @tup a xs gs ha hgs =>
    rw [show isT (G.tup gs).kd .tup = true from rfl]
    refine ite2 (fun _ => ?_) (fun z => absurd rfl z)
    have hlen := hgs.len
    walk_at "r"
    refine itd (fun h2 => ?_) (fun h2 => ?_)
    · cases hgs with
      | nil => simp at h2
      | @cons v1 vs g1 gs h1 hs =>
        cases hs with
        | cons _ _ => simp at h2; omega
        | nil =>
          refine ⟨fun σ H' => σ = [some v1] ∧ H' = H1, ?_, ?_⟩
          · rintro σ' H' ⟨e1, e2⟩
            exact ⟨sizeOf g1, by simp; omega, v1, g1, e1, e2, h1, hP, rfl⟩
          · walk_at "r"
            exact ⟨rfl, rfl⟩
    · refine fin fun g1 z => ?_
      cases z
      rw [hlen] at h2
      exact h2 rfl
  | non => exact fin fun g1 z => by cases z
  | bl k => exact fin fun g1 z => by cases z
  | int i => exact fin fun g1 z => by cases z
  | str l => exact fin fun g1 z => by cases z
  | lst ha => exact fin fun g1 z => by cases z
  | dic ha => exact fin fun g1 z => by cases z
end
end K54
--@law law_k54_whole_things_as_texts h54.json
set_option Elab.async false
set_option linter.all false
set_option maxRecDepth 100000
set_option maxHeartbeats 4000000
namespace K54
open PySem PySem.Spec PyProof.Rows L2 KB
open SX (S)
local macro_rules | `(tactic| walk_at "s") => `(tactic| first
  | with_reducible refine r_seq ?_
  | with_reducible refine r_set ?_
  | ((with_reducible show tVar _ _ _ _); refine r_var rfl ?_)
  | with_reducible refine r_c ?_
  | with_reducible refine r_op ?_
  | with_reducible refine r_cb ?_
  | with_reducible refine r_cons ?_
  | with_reducible refine r_nil ?_
  | with_reducible refine r_test ?_
  | with_reducible refine r_if ?_
  | with_reducible refine r_I0 ?_
  | with_reducible refine r_eqS1 ?_
  | with_reducible refine r_neS1 ?_
  | with_reducible refine r_eqSL ?_
  | with_reducible refine r_neSL ?_
  | with_reducible refine r_eqI ?_
  | ((with_reducible show rEq _ _ _ _); refine r_eq ?_)
  | ((with_reducible show rNe _ _ _ _); refine r_ne ?_)
  | with_reducible refine r_bl ?_
  | with_reducible refine r_blV ?_
  | with_reducible refine r_intV ?_
  | with_reducible refine r_ret ?_
  | with_reducible refine r_next ?_
  | with_reducible refine r_callS ?_
  | with_reducible refine r_call ?_
  | with_reducible refine r_asg ?_
  | with_reducible refine r_drop ?_
  | with_reducible refine r_retN ?_
  | with_reducible refine r_un ?_
  | with_reducible refine r_U ?_
  | with_reducible refine r_tup ?_
  | with_reducible refine r_lst ?_
  | with_reducible refine r_andV ?_
  | with_reducible refine r_orV ?_
  | with_reducible refine r_notV ?_
  | with_reducible refine r_ifE ?_
  | with_reducible refine r_meth ?_
  | with_reducible refine r_make ?_
  | with_reducible refine r_fld ?_
  | with_reducible refine r_sl ?_
  | with_reducible refine r_nop ?_
  | with_reducible refine r_part ?_
  | with_reducible refine r_B ?_
  | with_reducible refine r_and ?_
  | with_reducible refine r_or ?_
  | with_reducible refine r_not ?_
  | with_reducible refine r_chain ?_
  | with_reducible refine r_bm0 ?_
  | with_reducible refine r_bm ?_
  | with_reducible refine r_m1 ?_
  | with_reducible refine r_gname ?_
  | with_reducible refine r_gnil ?_
  | with_reducible refine r_gcons ?_
  | with_reducible refine r_gsub ?_
  | with_reducible refine r_sfld ?_
  | with_reducible refine r_faug ?_
  | with_reducible refine r_rAdd ?_
  | with_reducible refine r_rSub ?_
  | with_reducible refine r_ilist ?_
  | with_reducible refine r_itup ?_
  | with_reducible refine r_irng1 ?_
  | with_reducible refine r_lc ?_
  | with_reducible refine r_for ?_
  | with_reducible refine r_istr ?_
  | with_reducible refine r_isN ?_
  | with_reducible refine r_isnN ?_
  | with_reducible refine r_abs ?_
  | with_reducible refine r_int1 ?_
  | with_reducible refine r_leS ?_
  | with_reducible refine r_brk ?_
  | with_reducible refine r_strV ?_
  | with_reducible refine iteT ?_
  | with_reducible refine iteF ?_
  | with_reducible refine itT ?_
  | with_reducible refine itF ?_
  | ((with_reducible show rLenS _ _ _); refine r_lenS (by omega) ?_)
  | ((with_reducible show rAddS _ _ _ _); refine r_addS (by first | omega | (simp only [List.length_append, List.length_cons, List.length_nil]; omega)) ?_)
  | with_reducible refine r_inSg ?_
  | with_reducible refine r_notInSg ?_
  | with_reducible refine r_strE ?_
  | with_reducible refine r_szle (by first | decide | (simp only [List.length_cons, List.length_nil]; omega)) ?_
  | with_reducible refine r_revS ?_
  | ((with_reducible show rIxL _ (.ref _) (.int _) _ _); apply r_ixL; (· walk_at "sq"); (· exact rfl))
  | ((with_reducible show rIxT _ (.ref _) (.int _) _ _); apply r_ixT; (· walk_at "sq"); (· exact rfl))
  | ((with_reducible show rLenSq _ [.ref _] _ _); first | (apply r_lenL; (· walk_at "sq")) | (apply r_lenT; (· walk_at "sq")))
  | ((with_reducible show rI _ _ (.int _) (.int _) _ _); refine r_I (by walk_at "ar") ?_)
  | with_reducible refine r_ct ?_)
local macro_rules | `(tactic| walk_at "sq") => `(tactic| first
  | assumption
  | exact SqL.of (by assumption)
  | exact SqT.of (by assumption)
  | exact SqL.of upd_same
  | exact SqT.of upd_same)
local macro_rules | `(tactic| walk_at "ar") => `(tactic| first
  | exact Or.inl ⟨by omega, by omega⟩
  | exact Or.inr ⟨by omega, by omega⟩
  | exact ⟨by omega, by omega⟩
  | exact ⟨by decide, by decide, by decide⟩
  | (show (0 : Int) < _; omega)
  | omega)
local macro_rules | `(tactic| walk_at "r") => `(tactic| repeat walk_at "s")

section
variable {P : Program} {w : World} {K : PySem.W.Frag} {mg : Str → Option Value} {base : Heap}
theorem KT.comp {H H1 H2 : Hp} (y : KT H1 H2) (x : KT H H1) : KT H H2 := KT.trans x y
def okG (g : G) : Prop := isPl g = true ∨ ∀ n, gTh g n = false
def spDeep : Sp := fun vs H Q _ => ∃ (a c : Addr) (ns : List Int), vs = [.ref a] ∧ Hand H a c ns ∧ ∀ v g H', GR H' v g → okG g → gSz g ≤ 1000 → Dr H a c ns H' → Q v H'
theorem c_law_deep (S : C54 K mg) : Cal P w K mg base 2 "_law_deep" spDeep := by
  have c_law_draw := c_law_draw (P := P) (w := w) (base := base) S
  refine cal_of S (k := 1) (st := s_law_deep) (by simp [fn, d_law_deep]) (by decide +kernel) sc_law_deep bd_law_deep (fun vs H Q E ⟨a, c, ns, h, _⟩ => by rw [h] <;> rfl) fun f cdv A outer s H vs Q E tk px hr h => ?_
  obtain ⟨a, c, ns, rfl, hh, hQ⟩ := h
  refine ⟨_, (Evl.pss_cut (ps_set (i := 1) sc_law_deep.nd rfl (by first | exact Or.inl rfl | exact Or.inr rfl) (pe_ix ix_list (pe_lst (pa_cons pe_non (pa_cons (pe_tup pa_nil) (pa_cons pe_int pa_nil)))) (pe_cS c_law_draw hr (by first | decide | omega) tk (pa_cons (pv 0) (pa_cons pe_int pa_nil))) (fun _ _ => rfl)))
      (pss_cons (ps_for (passes_of rfl) rfl (pi_range1 rfl (S.free "range") (pa_cons (pe_op op_add pe_int (pe_cS c_law_draw hr (by first | decide | omega) tk (pa_cons (pv 0) (pa_cons pe_int pa_nil)))) pa_nil)) (pg_name (i := 2) sc_law_deep.nd rfl (by first | exact Or.inl rfl | exact Or.inr rfl)) (pss_one (ps_set (i := 1) sc_law_deep.nd rfl (by first | exact Or.inl rfl | exact Or.inr rfl) (pe_ix ix_list (pe_lst (pa_cons (pe_lst (pa_cons (pv 1) pa_nil)) (pa_cons (pe_tup (pa_cons (pv 1) pa_nil)) (pa_cons (pe_disp (pps_cons pe_int (pv 1) pps_nil) (by rfl) (by rfl) (fun z => by cases z) (by decide)) pa_nil)))) (pe_cS c_law_draw hr (by first | decide | omega) tk (pa_cons (pv 0) (pa_cons pe_int pa_nil))) (fun _ _ => rfl)))))
      (pss_one (ps_ret (pv 1))))), ?_⟩
  refine ⟨fun σ H' => ∃ v g, σ = [some (.ref a), some v, none] ∧ GR H' v g ∧ okG g ∧ gSz g ≤ 1 ∧ Dr H a c ns H', ?_, ?_⟩
  · try simp only [cxK]
    walk_at "r"
    intro p1 hp1
    generalize hU1 : L2.upd H p1 _ = H1
    have x1 : Ex H H1 := hU1 ▸ Evl.Ex.new hp1
    have e1 : H1 p1 = some (.tup []) := hU1 ▸ upd_same
    walk_at "r"
    intro p2 hp2
    generalize hU2 : L2.upd H1 p2 _ = H2
    have x2 : Ex H1 H2 := hU2 ▸ Evl.Ex.new hp2
    have e2 : H2 p2 = some (.lst [V.non, V.ref p1, V.int 0]) := hU2 ▸ upd_same
    have x02 : Ex H H2 := Evl.Ex.trans x1 x2
    have h2 := hh.ex x02
    have hpa := (hh.ex x1).neA hp2
    walk_at "r"
    refine ⟨a, c, ns, _, rfl, h2, by decide, fun r H3 g1 g2 d3 => ?_⟩
    obtain ⟨v, hv, hm⟩ := atI_lt (xs := [V.non, V.ref p1, V.int 0]) g1 g2
    walk_at "r"
    refine r_ixL (SqL.of (d3.at e2 hpa)) hv ?_
    walk_at "r"
    have dd : Dr H a c ns H3 := (Dr.ex hh x02).trans d3
    have hm' : v = .non ∨ v = .ref p1 ∨ v = .int 0 := by simpa using hm
    rcases hm' with rfl | rfl | rfl
    · exact ⟨_, .non, rfl, .non, .inl rfl, by decide, dd⟩
    · exact ⟨_, .tup [], rfl, .tup (d3.kt h2 _ _ (x2 _ _ e1)) .nil, .inl rfl, by decide, dd⟩
    · exact ⟨_, .int 0, rfl, .int 0, .inl rfl, by decide, dd⟩
  · try simp only [cxK]
    rintro σ H1 ⟨v, g, rfl, hg, hok, hz, d1⟩
    walk_at "r"
    refine ⟨a, c, ns, _, rfl, d1.hand, by decide, fun r H2 g1 g2 d2 => ?_⟩
    walk_at "r"
    refine ⟨14 + r, rfl, by omega, by omega, ?_⟩
    refine fo1 walk_range (fun i σ H3 => ∃ v g u, σ = [some (.ref a), some v, u] ∧ GR H3 v g ∧ okG g ∧ gSz g ≤ 1 + i ∧ Dr H a c ns H3) ⟨v, g, none, rfl, hg.kg (d2.kg d1.hand), hok, by omega, d1.trans d2⟩ (fun _ _ _ _ => trivial) ?_ ?_
    · clear hg hok hz d1 d2
      rintro i x σ H3 H4 hi ⟨v, g, u, rfl, hg, hok, hz, d3⟩ ⟨rfl, rfl⟩
      have h3 := d3.hand
      walk_at "r"
      intro p1 hp1
      generalize hU1 : L2.upd H4 p1 _ = H1
      have x1 : Ex H4 H1 := hU1 ▸ Evl.Ex.new hp1
      have e1 : H1 p1 = some (.lst [v]) := hU1 ▸ upd_same
      walk_at "r"
      intro p2 hp2
      generalize hU2 : L2.upd H1 p2 _ = H2
      have x2 : Ex H1 H2 := hU2 ▸ Evl.Ex.new hp2
      have e2 : H2 p2 = some (.tup [v]) := hU2 ▸ upd_same
      walk_at "r"
      intro p3 hp3
      show tC (V.int 0) _ _ fun x H1 => tVar 1 _ H1 fun y H2 => _
      walk_at "r"
      show (L2.upd H2 p3 (.dK [])) p3 = some (.dK []) ∧ _
      refine ⟨upd_same, [(.inl 0, v)], rfl, by simp, ?_⟩
      generalize hU3 : L2.upd (L2.upd H2 p3 (.dK [])) p3 _ = H5
      have x3 : Ex H2 H5 := hU3 ▸ Evl.Ex.mut (Evl.Ex.new hp3) hp3
      have e3 : H5 p3 = some (.dK (mergeK [] [(.inl 0, v)])) := hU3 ▸ upd_same
      walk_at "r"
      intro p4 hp4
      have x13 : Ex H1 H5 := Evl.Ex.trans x2 x3
      have x45 : Ex H4 H5 := Evl.Ex.trans x1 x13
      have hpa := (h3.ex x45).neA hp4
      generalize hU6 : L2.upd H5 p4 _ = H6
      have x6 : Ex H5 H6 := hU6 ▸ Evl.Ex.new hp4
      have e6 : H6 p4 = some (.lst [V.ref p1, V.ref p2, V.ref p3]) := hU6 ▸ upd_same
      have x46 : Ex H4 H6 := Evl.Ex.trans x45 x6
      have h6 := h3.ex x46
      walk_at "r"
      refine ⟨a, c, ns, _, rfl, h6, by decide, fun r H7 g1 g2 d7 => ?_⟩
      obtain ⟨w1, hv, hm⟩ := atI_lt (xs := [V.ref p1, V.ref p2, V.ref p3]) g1 g2
      walk_at "r"
      refine r_ixL (SqL.of (d7.at e6 hpa)) hv ?_
      walk_at "r"
      have dd : Dr H a c ns H7 := d3.trans ((Dr.ex h3 x46).trans d7)
      have kg := d7.kg h6
      have hm' : w1 = .ref p1 ∨ w1 = .ref p2 ∨ w1 = .ref p3 := by simpa using hm
      rcases hm' with rfl | rfl | rfl
      · obtain ⟨ys, hy⟩ := kg.lst _ _ (x6 _ _ (x13 _ _ e1))
        exact ⟨_, .lst, _, rfl, .lst hy, .inr fun n => by simp [gTh], by simp [gSz], dd⟩
      · refine ⟨_, .tup [g], _, rfl, .tup (kg.tup _ _ (x6 _ _ (x3 _ _ e2))) (.cons (hg.kg ⟨KT.trans (Ex.kt x46) kg.tup, fun b xs e => kg.lst _ _ (x46 _ _ e), fun b kvs e => kg.dic _ _ (x46 _ _ e)⟩) .nil), ?_, by simp [gSz, gSzs]; omega, dd⟩
        rcases hok with h | h
        · exact .inl (by simpa [isPl, isPls] using h)
        · refine .inr fun n => ?_
          cases n with
          | zero => simp [gTh]
          | succ n => simp [gTh, gThs, h n]
      · exact ⟨_, .dic, _, rfl, .dic (kg.dic _ _ (x6 _ _ e3)), .inr fun n => by simp [gTh], by simp [gSz], dd⟩
    · rintro σ H3 ⟨v, g, u, rfl, hg, hok, hz, d3⟩
      walk_at "r"
      exact hQ v g H3 hg hok (by omega) d3
end
end K54
--@law law_k54_whole_things_as_texts h54.json
set_option Elab.async false
set_option linter.all false
set_option maxRecDepth 100000
set_option maxHeartbeats 4000000
namespace K54
open PySem PySem.Spec PyProof.Rows L2 KB
open SX (S)
local macro_rules | `(tactic| walk_at "s") => `(tactic| first
  | with_reducible refine r_seq ?_
  | with_reducible refine r_set ?_
  | ((with_reducible show tVar _ _ _ _); refine r_var rfl ?_)
  | with_reducible refine r_c ?_
  | with_reducible refine r_op ?_
  | with_reducible refine r_cb ?_
  | with_reducible refine r_cons ?_
  | with_reducible refine r_nil ?_
  | with_reducible refine r_test ?_
  | with_reducible refine r_if ?_
  | with_reducible refine r_I0 ?_
  | with_reducible refine r_eqS1 ?_
  | with_reducible refine r_neS1 ?_
  | with_reducible refine r_eqSL ?_
  | with_reducible refine r_neSL ?_
  | with_reducible refine r_eqI ?_
  | ((with_reducible show rEq _ _ _ _); refine r_eq ?_)
  | ((with_reducible show rNe _ _ _ _); refine r_ne ?_)
  | with_reducible refine r_bl ?_
  | with_reducible refine r_blV ?_
  | with_reducible refine r_intV ?_
  | with_reducible refine r_ret ?_
  | with_reducible refine r_next ?_
  | with_reducible refine r_callS ?_
  | with_reducible refine r_call ?_
  | with_reducible refine r_asg ?_
  | with_reducible refine r_drop ?_
  | with_reducible refine r_retN ?_
  | with_reducible refine r_un ?_
  | with_reducible refine r_U ?_
  | with_reducible refine r_tup ?_
  | with_reducible refine r_lst ?_
  | with_reducible refine r_andV ?_
  | with_reducible refine r_orV ?_
  | with_reducible refine r_notV ?_
  | with_reducible refine r_ifE ?_
  | with_reducible refine r_meth ?_
  | with_reducible refine r_make ?_
  | with_reducible refine r_fld ?_
  | with_reducible refine r_sl ?_
  | with_reducible refine r_nop ?_
  | with_reducible refine r_part ?_
  | with_reducible refine r_B ?_
  | with_reducible refine r_and ?_
  | with_reducible refine r_or ?_
  | with_reducible refine r_not ?_
  | with_reducible refine r_chain ?_
  | with_reducible refine r_bm0 ?_
  | with_reducible refine r_bm ?_
  | with_reducible refine r_m1 ?_
  | with_reducible refine r_gname ?_
  | with_reducible refine r_gnil ?_
  | with_reducible refine r_gcons ?_
  | with_reducible refine r_gsub ?_
  | with_reducible refine r_sfld ?_
  | with_reducible refine r_faug ?_
  | with_reducible refine r_rAdd ?_
  | with_reducible refine r_rSub ?_
  | with_reducible refine r_ilist ?_
  | with_reducible refine r_itup ?_
  | with_reducible refine r_irng1 ?_
  | with_reducible refine r_lc ?_
  | with_reducible refine r_for ?_
  | with_reducible refine r_istr ?_
  | with_reducible refine r_isN ?_
  | with_reducible refine r_isnN ?_
  | with_reducible refine r_abs ?_
  | with_reducible refine r_int1 ?_
  | with_reducible refine r_leS ?_
  | with_reducible refine r_brk ?_
  | with_reducible refine r_strV ?_
  | with_reducible refine iteT ?_
  | with_reducible refine iteF ?_
  | with_reducible refine itT ?_
  | with_reducible refine itF ?_
  | ((with_reducible show rLenS _ _ _); refine r_lenS (by omega) ?_)
  | ((with_reducible show rAddS _ _ _ _); refine r_addS (by first | omega | (simp only [List.length_append, List.length_cons, List.length_nil]; omega)) ?_)
  | with_reducible refine r_inSg ?_
  | with_reducible refine r_notInSg ?_
  | with_reducible refine r_strE ?_
  | with_reducible refine r_szle (by first | decide | (simp only [List.length_cons, List.length_nil]; omega)) ?_
  | with_reducible refine r_revS ?_
  | ((with_reducible show rIxL _ (.ref _) (.int _) _ _); apply r_ixL; (· walk_at "sq"); (· exact rfl))
  | ((with_reducible show rIxT _ (.ref _) (.int _) _ _); apply r_ixT; (· walk_at "sq"); (· exact rfl))
  | ((with_reducible show rLenSq _ [.ref _] _ _); first | (apply r_lenL; (· walk_at "sq")) | (apply r_lenT; (· walk_at "sq")))
  | ((with_reducible show rI _ _ (.int _) (.int _) _ _); refine r_I (by walk_at "ar") ?_)
  | with_reducible refine r_ct ?_)
local macro_rules | `(tactic| walk_at "sq") => `(tactic| first
  | assumption
  | exact SqL.of (by assumption)
  | exact SqT.of (by assumption)
  | exact SqL.of upd_same
  | exact SqT.of upd_same)
local macro_rules | `(tactic| walk_at "ar") => `(tactic| first
  | exact Or.inl ⟨by omega, by omega⟩
  | exact Or.inr ⟨by omega, by omega⟩
  | exact ⟨by omega, by omega⟩
  | exact ⟨by decide, by decide, by decide⟩
  | (show (0 : Int) < _; omega)
  | omega)
local macro_rules | `(tactic| walk_at "r") => `(tactic| repeat walk_at "s")

section
variable {P : Program} {w : World} {K : PySem.W.Frag} {mg : Str → Option Value} {base : Heap}
theorem r_slAny {l : List Nat} {lo hi : Option Int} {H : Hp} {Q : VK} (hl : l.length ≤ 1000000) (q : ∀ l' : List Nat, l'.length ≤ l.length → Q (.str (SX.S l')) H) : rSlS (.str (SX.S l)) lo hi H Q :=
  r_slS hl (q _ (by rw [List.length_take, List.length_drop]; omega))
def spChanged (K : PySem.W.Frag) : Sp := fun vs H Q _ => ∃ (a c : Addr) (ns : List Int) (l : List Nat), vs = [.ref a, .str (SX.S l)] ∧ Hand H a c ns ∧ l.length ≤ 20000 ∧ ∀ (l' : List Nat) H', l'.length ≤ 100000 → Dr H a c ns H' → Q (.str (SX.S l')) H'
theorem c_law_changed (S : C54 K mg) : Cal P w K mg base 3 "_law_changed" (spChanged K) := by
  have c_law_draw := c_law_draw (P := P) (w := w) (base := base) S
  have c_law_any := c_law_any (P := P) (w := w) (base := base) S
  refine cal_of S (k := 2) (st := s_law_changed) (by simp [fn, d_law_changed]) (by decide +kernel) sc_law_changed bd_law_changed (fun vs H Q E ⟨a, c, ns, l, h, _⟩ => by rw [h] <;> rfl) fun f cdv A outer s H vs Q E tk px hr h => ?_
  obtain ⟨a, c, ns, l, rfl, hh, hl, hQ⟩ := h
  refine ⟨_, (pss_cons (ps_set (i := 2) sc_law_changed.nd rfl (by first | exact Or.inl rfl | exact Or.inr rfl) (pe_cS c_law_draw hr (by first | decide | omega) tk (pa_cons (pv 0) (pa_cons (pe_op op_add (pe_callB call_lenS (by rfl) (S.free "len") PySem.boot_len (pa_cons (pv 1) pa_nil)) pe_int) pa_nil))))
      (pss_cons (ps_set (i := 3) sc_law_changed.nd rfl (by first | exact Or.inl rfl | exact Or.inr rfl) (pe_cS c_law_any hr (by first | decide | omega) tk (pa_cons (pv 0) (pa_cons (pe_sl [97, 98, 39, 126, 40, 41, 44, 46, 35, 45, 48, 49, 50, 57, 32, 10]) pa_nil))))
      (pss_cons (ps_set (i := 4) sc_law_changed.nd rfl (by first | exact Or.inl rfl | exact Or.inr rfl) (pe_lst (pa_cons (pe_op op_addS (pe_op op_addS (pe_slice sl_str (pv 1) po_none (po_some (pv 2))) (pv 3)) (pe_slice sl_str (pv 1) (po_some (pv 2)) po_none)) (pa_cons (pe_op op_addS (pe_slice sl_str (pv 1) po_none (po_some (pv 2))) (pe_slice sl_str (pv 1) (po_some (pe_op op_add (pv 2) pe_int)) po_none)) (pa_cons (pe_op op_addS (pe_op op_addS (pe_slice sl_str (pv 1) po_none (po_some (pv 2))) (pv 3)) (pe_slice sl_str (pv 1) (po_some (pe_op op_add (pv 2) pe_int)) po_none)) (pa_cons (pe_slice sl_str (pv 1) po_none (po_some (pv 2))) pa_nil))))))
      (pss_cons (ps_expr (pe_bm PySem.F.plainAttrs_list PySem.F.slot_list_extend PySem.F.type_list_extend mt_extend (pv 4) (pa_cons (pe_lst (pa_cons (pe_op op_addS (pe_op op_addS (pe_slice sl_str (pv 1) po_none (po_some (pv 2))) (pe_revS (pe_slice sl_str (pv 1) (po_some (pv 2)) (po_some (pe_op op_add (pv 2) pe_int))))) (pe_slice sl_str (pv 1) (po_some (pe_op op_add (pv 2) pe_int)) po_none)) (pa_cons (pe_op op_addS (pv 1) (pv 3)) (pa_cons (pe_op op_addS (pv 1) (pv 1)) (pa_cons (pe_slice sl_str (pv 1) (po_some (pv 2)) po_none) pa_nil))))) pa_nil)))
      (pss_one (ps_ret (pe_cS c_law_any hr (by first | decide | omega) tk (pa_cons (pv 0) (pa_cons (pv 4) pa_nil))))))))), ?_⟩
  try simp only [cxK]
  walk_at "r"
  refine ⟨a, c, ns, _, rfl, hh, by omega, fun r H1 g1 g2 d1 => ?_⟩
  walk_at "r"
  refine ⟨a, c, ns, _, rfl, d1.hand, .inr ⟨_, rfl, by decide, by decide, fun ch H2 hch d2 => ?_⟩⟩
  walk_at "r"
  refine r_slAny (by omega) fun t1 k1 => ?_
  walk_at "r"
  refine r_slAny (by omega) fun t2 k2 => ?_
  walk_at "r"
  refine r_slAny (by omega) fun t3 k3 => ?_
  walk_at "r"
  refine r_slAny (by omega) fun t4 k4 => ?_
  walk_at "r"
  refine r_slAny (by omega) fun t5 k5 => ?_
  walk_at "r"
  refine r_slAny (by omega) fun t6 k6 => ?_
  walk_at "r"
  refine r_slAny (by omega) fun t7 k7 => ?_
  walk_at "r"
  intro p3 hp3
  have h2 := d2.hand
  have hpa := h2.neA hp3
  generalize hU3 : L2.upd H2 p3 _ = H3
  have x3 : Ex H2 H3 := hU3 ▸ Evl.Ex.new hp3
  have e3 : H3 p3 = some (.lst (([t1 ++ [ch] ++ t2, t3 ++ t4, t5 ++ [ch] ++ t6, t7] : List (List Nat)).map fun l => V.str (SX.S l))) := hU3 ▸ upd_same
  walk_at "r"
  refine ⟨.inl ⟨rfl, _, SqL.of e3⟩, ?_⟩
  walk_at "r"
  refine r_slAny (by omega) fun u1 j1 => ?_
  walk_at "r"
  refine r_slAny (by omega) fun u2 j2 => ?_
  refine ⟨u2, rfl, by omega, fun u3 j3 => ?_⟩
  walk_at "r"
  refine r_slAny (by omega) fun u4 j4 => ?_
  walk_at "r"
  refine r_slAny (by omega) fun u5 j5 => ?_
  walk_at "r"
  intro p4 hp4
  have hp34 : p3 ≠ p4 := fun z => by rw [← z, e3] at hp4; cases hp4
  generalize hU4 : L2.upd H3 p4 _ = H4
  have x4 : Ex H3 H4 := hU4 ▸ Evl.Ex.new hp4
  have e4 : H4 p4 = some (.lst (([u1 ++ u3 ++ u4, l ++ [ch], l ++ l, u5] : List (List Nat)).map fun l => V.str (SX.S l))) := hU4 ▸ upd_same
  walk_at "r"
  refine ⟨p3, p4, _, _, rfl, rfl, x4 _ _ e3, e4, by simp only [List.length_map, List.length_cons, List.length_nil]; exact len1M (by omega), ?_⟩
  have h4 := h2.ex (Evl.Ex.trans x3 x4)
  have d4 : Dr H a c ns H4 := (d1.trans d2).trans (Dr.ex h2 (Evl.Ex.trans x3 x4))
  have hp3H : H p3 = none := by
    have e1 : H2 p3 = none := hp3
    cases e0 : H p3 with
    | none => rfl
    | some o =>
      have := (d1.trans d2).at e0 hpa
      rw [this] at e1
      cases e1
  have d5 := d4.own (o := .lst ((([t1 ++ [ch] ++ t2, t3 ++ t4, t5 ++ [ch] ++ t6, t7] : List (List Nat)).map fun l => V.str (SX.S l)) ++ (([u1 ++ u3 ++ u4, l ++ [ch], l ++ l, u5] : List (List Nat)).map fun l => V.str (SX.S l)))) hh hp3H
  generalize hU5 : L2.upd H4 p3 _ = H5 at d5 ⊢
  have e5 : H5 p3 = some (.lst (([t1 ++ [ch] ++ t2, t3 ++ t4, t5 ++ [ch] ++ t6, t7, u1 ++ u3 ++ u4, l ++ [ch], l ++ l, u5] : List (List Nat)).map fun l => V.str (SX.S l))) := hU5 ▸ upd_same
  walk_at "r"
  refine ⟨a, c, ns, _, rfl, d5.hand, .inl ⟨p3, _, rfl, e5, hpa, by simp, by simp, fun v H6 hv d6 => ?_⟩⟩
  obtain ⟨l', hm, rfl⟩ := List.mem_map.mp hv
  refine hQ l' H6 ?_ (d5.trans d6)
  simp only [List.mem_cons, List.not_mem_nil, or_false] at hm
  rcases hm with rfl | rfl | rfl | rfl | rfl | rfl | rfl | rfl <;> (try simp only [List.length_append, List.length_cons, List.length_nil]) <;> omega
end
end K54
--@law law_k54_whole_things_as_texts h54.json
set_option Elab.async false
set_option linter.all false
set_option maxRecDepth 100000
set_option maxHeartbeats 4000000
namespace K54
open PySem PySem.Spec PyProof.Rows L2 KB
open SX (S)
local macro_rules | `(tactic| walk_at "s") => `(tactic| first
  | with_reducible refine r_seq ?_
  | with_reducible refine r_set ?_
  | ((with_reducible show tVar _ _ _ _); refine r_var rfl ?_)
  | with_reducible refine r_c ?_
  | with_reducible refine r_op ?_
  | with_reducible refine r_cb ?_
  | with_reducible refine r_cons ?_
  | with_reducible refine r_nil ?_
  | with_reducible refine r_test ?_
  | with_reducible refine r_if ?_
  | with_reducible refine r_I0 ?_
  | with_reducible refine r_eqS1 ?_
  | with_reducible refine r_neS1 ?_
  | with_reducible refine r_eqSL ?_
  | with_reducible refine r_neSL ?_
  | with_reducible refine r_eqI ?_
  | ((with_reducible show rEq _ _ _ _); refine r_eq ?_)
  | ((with_reducible show rNe _ _ _ _); refine r_ne ?_)
  | with_reducible refine r_bl ?_
  | with_reducible refine r_blV ?_
  | with_reducible refine r_intV ?_
  | with_reducible refine r_ret ?_
  | with_reducible refine r_next ?_
  | with_reducible refine r_callS ?_
  | with_reducible refine r_call ?_
  | with_reducible refine r_asg ?_
  | with_reducible refine r_drop ?_
  | with_reducible refine r_retN ?_
  | with_reducible refine r_un ?_
  | with_reducible refine r_U ?_
  | with_reducible refine r_tup ?_
  | with_reducible refine r_lst ?_
  | with_reducible refine r_andV ?_
  | with_reducible refine r_orV ?_
  | with_reducible refine r_notV ?_
  | with_reducible refine r_ifE ?_
  | with_reducible refine r_meth ?_
  | with_reducible refine r_make ?_
  | with_reducible refine r_fld ?_
  | with_reducible refine r_sl ?_
  | with_reducible refine r_nop ?_
  | with_reducible refine r_part ?_
  | with_reducible refine r_B ?_
  | with_reducible refine r_and ?_
  | with_reducible refine r_or ?_
  | with_reducible refine r_not ?_
  | with_reducible refine r_chain ?_
  | with_reducible refine r_bm0 ?_
  | with_reducible refine r_bm ?_
  | with_reducible refine r_m1 ?_
  | with_reducible refine r_gname ?_
  | with_reducible refine r_gnil ?_
  | with_reducible refine r_gcons ?_
  | with_reducible refine r_gsub ?_
  | with_reducible refine r_sfld ?_
  | with_reducible refine r_faug ?_
  | with_reducible refine r_rAdd ?_
  | with_reducible refine r_rSub ?_
  | with_reducible refine r_ilist ?_
  | with_reducible refine r_itup ?_
  | with_reducible refine r_irng1 ?_
  | with_reducible refine r_lc ?_
  | with_reducible refine r_for ?_
  | with_reducible refine r_istr ?_
  | with_reducible refine r_isN ?_
  | with_reducible refine r_isnN ?_
  | with_reducible refine r_abs ?_
  | with_reducible refine r_int1 ?_
  | with_reducible refine r_leS ?_
  | with_reducible refine r_brk ?_
  | with_reducible refine r_strV ?_
  | with_reducible refine iteT ?_
  | with_reducible refine iteF ?_
  | with_reducible refine itT ?_
  | with_reducible refine itF ?_
  | ((with_reducible show rLenS _ _ _); refine r_lenS (by omega) ?_)
  | ((with_reducible show rAddS _ _ _ _); refine r_addS (by first | omega | (simp only [List.length_append, List.length_cons, List.length_nil]; omega)) ?_)
  | with_reducible refine r_inSg ?_
  | with_reducible refine r_notInSg ?_
  | with_reducible refine r_strE ?_
  | with_reducible refine r_szle (by first | decide | (simp only [List.length_cons, List.length_nil]; omega)) ?_
  | with_reducible refine r_revS ?_
  | ((with_reducible show rIxL _ (.ref _) (.int _) _ _); apply r_ixL; (· walk_at "sq"); (· exact rfl))
  | ((with_reducible show rIxT _ (.ref _) (.int _) _ _); apply r_ixT; (· walk_at "sq"); (· exact rfl))
  | ((with_reducible show rLenSq _ [.ref _] _ _); first | (apply r_lenL; (· walk_at "sq")) | (apply r_lenT; (· walk_at "sq")))
  | ((with_reducible show rI _ _ (.int _) (.int _) _ _); refine r_I (by walk_at "ar") ?_)
  | with_reducible refine r_ct ?_)
local macro_rules | `(tactic| walk_at "sq") => `(tactic| first
  | assumption
  | exact SqL.of (by assumption)
  | exact SqT.of (by assumption)
  | exact SqL.of upd_same
  | exact SqT.of upd_same)
local macro_rules | `(tactic| walk_at "ar") => `(tactic| first
  | exact Or.inl ⟨by omega, by omega⟩
  | exact Or.inr ⟨by omega, by omega⟩
  | exact ⟨by omega, by omega⟩
  | exact ⟨by decide, by decide, by decide⟩
  | (show (0 : Int) < _; omega)
  | omega)
local macro_rules | `(tactic| walk_at "r") => `(tactic| repeat walk_at "s")

section
variable {P : Program} {w : World} {K : PySem.W.Frag} {mg : Str → Option Value} {base : Heap}
def outD : Sum PyData Nat → PyData
  | .inl d => .tuple [.str (SX.S [116, 104, 105, 110, 103]), d]
  | .inr q => .tuple [.str (SX.S [119, 114, 111, 110, 103]), .int (q : Nat)]
theorem out_dp {H : Hp} {q : Addr} : ∀ {R : Sum PyData Nat}, OutP H q R → Dp K H (.ref q) (outD R)
  | .inl d, ⟨v, e, hd⟩ => .tup (SqT.of e) (.cons (.str _) (.cons hd.dp .nil))
  | .inr n, e => .tup (SqT.of e) (.cons (.str _) (.cons (.int _) .nil))
theorem outP_ex {H H' : Hp} {q : Addr} (x : Ex H H') : ∀ {R : Sum PyData Nat}, OutP H q R → OutP H' q R
  | .inl d, ⟨v, e, hd⟩ => ⟨v, x _ _ e, hd.kt (Ex.kt x)⟩
  | .inr n, e => x _ _ e
theorem sh_out {R : Sum PyData Nat} (h : ∀ d, R = .inl d → Tx.isTh d 30 = true) : SeqAt.shaped (outD R) = true := by
  unfold SeqAt.shaped
  cases R with
  | inl d =>
    obtain ⟨h1, h2⟩ := Tx.th_lay d 30 (h d rfl)
    have e1 : (outD (.inl d)).canLay0 = true := by
      show PyData.canLayAll0 [.str (SX.S [116, 104, 105, 110, 103]), d] = true
      simp only [PyData.canLayAll0, h1, Bool.and_true]
      decide +kernel
    have e2 : (outD (.inl d)).depth ≤ 64 := by
      show PyData.depthAll [.str (SX.S [116, 104, 105, 110, 103]), d] + 1 ≤ 64
      simp only [PyData.depthAll, PyData.depth]
      omega
    rw [e1, Bool.true_and]
    exact decide_eq_true e2
  | inr q =>
    have e1 : (outD (.inr q)).canLay0 = true := by
      show PyData.canLayAll0 [.str (SX.S [119, 114, 111, 110, 103]), .int (q : Nat)] = true
      simp only [PyData.canLayAll0]
      simp [PyData.canLay0]
      decide +kernel
    have e2 : (outD (.inr q)).depth ≤ 64 := by
      show PyData.depthAll [.str (SX.S [119, 114, 111, 110, 103]), .int (q : Nat)] + 1 ≤ 64
      simp [PyData.depthAll, PyData.depth]
    rw [e1, Bool.true_and]
    exact decide_eq_true e2
theorem sh_parse (l : List Nat) : SeqAt.shaped (outD (Tx.parse l)) = true := sh_out fun d h => Tx.parse_th l d h
theorem r_neSame {H : Hp} {Q : VK} {x y : V} {d : PyData} (hx : Dp K H x d) (hy : Dp K H y d) (hs : SeqAt.shaped d = true) (q : Q (.bl false) H) : rNeD K x y H Q :=
  ⟨d, d, hx, hy, hs, hs, by rw [SeqAt.eqv_refl d (SeqAt.canLay_of_shaped hs)]; exact q⟩
theorem r_eqSame {H : Hp} {Q : VK} {x y : V} {d : PyData} (hx : Dp K H x d) (hy : Dp K H y d) (hs : SeqAt.shaped d = true) (q : Q (.bl true) H) : rEqD K x y H Q :=
  ⟨d, d, hx, hy, hs, hs, by rw [SeqAt.eqv_refl d (SeqAt.canLay_of_shaped hs)]; exact q⟩
def spLaw (K : PySem.W.Frag) : Sp := fun vs H Q _ => ∃ (a : Addr) (ns : List Int), vs = [.ref a] ∧ SqL K H a (ns.map V.int) ∧ ns.length ≤ 1000 ∧ ∀ H', Q (.bl true) H'
theorem ok_law (S : C54 K mg) (B : PySem.BadX.BadTxt P K mg (aBad K) (He.fAd K pB)) (R : HB.Errs K) {f : Addr} {fd : FuncData} (F : FunD K "law" "law" (defArgs s_law) (defBody s_law) (defScope s_law) [] [] f fd) : FnOk P w K mg base CX0 65 f fd ["_law_script"] (spLaw K) := by
  have c_law_hand := c_law_hand (P := P) (w := w) (base := base) S
  have c_law_draw := c_law_draw (P := P) (w := w) (base := base) S
  have c_law_any := c_law_any (P := P) (w := w) (base := base) S
  have c_law_thing := c_law_thing (P := P) (w := w) (base := base) S 5
  have c_law_nested := c_law_nested (P := P) (w := w) (base := base) S
  have c_law_packed := c_law_packed (P := P) (w := w) (base := base) S 31
  have c_thing_text := c_thing_text (P := P) (w := w) (base := base) S
  have c_law_told := c_law_told (P := P) (w := w) (base := base) S B R
  have c_law_unpacked := c_law_unpacked (P := P) (w := w) (base := base) S
  have c_law_changed := c_law_changed (P := P) (w := w) (base := base) S
  have c_law_deep := c_law_deep (P := P) (w := w) (base := base) S
  have c_law_is_plain := c_law_is_plain (P := P) (w := w) (base := base) S
  have c_law_is_none := c_law_is_none (P := P) (w := w) (base := base) S R
  refine F.ok (k := 64) sc_law (fun vs H Q E ⟨a, ns, h, _⟩ => by rw [h] <;> rfl) fun cdv A outer s H vs Q E hr h => ?_
  obtain ⟨a0, ns0, rfl, hsq, hnl, hQ⟩ := h
  have tk := takes_none5 (X := cxOf CX0 P w K mg base N_law "law" (defScope s_law) f cdv A outer s H E)
  have hu : (A.deeper (envOfC "law" (defScope s_law) s.heap.objs.size f cdv)).units + 64 < cLine := by have := hr.un; omega
  refine ⟨_, (pss_cons (ps_set (i := 1) sc_law.nd rfl (by first | exact Or.inl rfl | exact Or.inr rfl) (pe_cS c_law_hand hr (by first | decide | omega) tk (pa_cons (pv 0) pa_nil)))
      (Evl.pss_cut (ps_for (passes_of rfl) rfl (pi_range1 rfl (S.free "range") (pa_cons pe_int pa_nil)) (pg_name (i := 2) sc_law.nd rfl (by first | exact Or.inl rfl | exact Or.inr rfl)) (pss_cons (ps_set (i := 6) sc_law.nd rfl (by first | exact Or.inl rfl | exact Or.inr rfl) (pe_cS c_law_thing hr (by first | decide | omega) tk (pa_cons (pv 1) (pa_cons pe_int pa_nil))))
        (Evl.pss_cut (ps_if (pt_cmpR op_eq (pe_cS c_law_draw hr (by first | decide | omega) tk (pa_cons (pv 1) (pa_cons pe_int pa_nil))) pe_int (nomark _)) (pss_one (ps_set (i := 6) sc_law.nd rfl (by first | exact Or.inl rfl | exact Or.inr rfl) (pe_cS c_law_nested hr (by first | decide | omega) tk (pa_cons (pv 1) (pa_cons (pe_ix ix_list (pe_lst (pa_cons pe_int (pa_cons pe_int (pa_cons pe_int pa_nil)))) (pe_cS c_law_draw hr (by first | decide | omega) tk (pa_cons (pv 1) (pa_cons pe_int pa_nil))) (fun _ _ => rfl)) pa_nil))))) pss_nil)
        (pss_cons (ps_set (i := 7) sc_law.nd rfl (by first | exact Or.inl rfl | exact Or.inr rfl) (pe_cS c_law_packed hr (by first | decide | omega) tk (pa_cons (pv 6) pa_nil)))
        (Evl.pss_cut (ps_if ((pw_or (pt_cmpR op_ne (pe_cS c_thing_text hr (by first | decide | omega) tk (pa_cons (pv 6) pa_nil)) (pv 7) (nomark _)) (pw_or (pt_cmpR (op_neD hu) (pe_cS c_law_told hr (by first | decide | omega) tk (pa_cons (pv 7) pa_nil)) (pe_tup (pa_cons (pe_sl [116, 104, 105, 110, 103]) (pa_cons (pv 6) pa_nil))) (nomark _)) (pw_or1 (pt_cmpR (op_neD hu) (pe_cS c_law_unpacked hr (by first | decide | omega) tk (pa_cons (pv 7) pa_nil)) (pe_tup (pa_cons (pe_sl [116, 104, 105, 110, 103]) (pa_cons (pv 6) pa_nil))) (nomark _)))))).pt (pss_one (ps_ret pe_bl)) pss_nil)
        (pss_one (ps_for (passes_of rfl) rfl (pi_range1 rfl (S.free "range") (pa_cons pe_int pa_nil)) (pg_name (i := 8) sc_law.nd rfl (by first | exact Or.inl rfl | exact Or.inr rfl)) (pss_cons (ps_set (i := 9) sc_law.nd rfl (by first | exact Or.inl rfl | exact Or.inr rfl) (pe_cS c_law_changed hr (by first | decide | omega) tk (pa_cons (pv 1) (pa_cons (pv 7) pa_nil))))
          (pss_one (ps_if (pt_cmpR (op_neD hu) (pe_cS c_law_told hr (by first | decide | omega) tk (pa_cons (pv 9) pa_nil)) (pe_cS c_law_unpacked hr (by first | decide | omega) tk (pa_cons (pv 9) pa_nil)) (nomark _)) (pss_one (ps_ret pe_bl)) pss_nil))))))))))
      (Evl.pss_cut (ps_set (i := 3) sc_law.nd rfl (by first | exact Or.inl rfl | exact Or.inr rfl) (pe_lst (pa_cons pe_bl (pa_cons (pe_lst pa_nil) (pa_cons pe_dnewK (pa_cons (pe_sl [10]) (pa_cons (pe_tup (pa_cons pe_int (pa_cons pe_bl pa_nil))) (pa_cons (pe_tup (pa_cons (pe_lst pa_nil) pa_nil)) (pa_cons (pe_tup (pa_cons (pe_sl [97, 10, 98]) pa_nil)) (pa_cons (pe_disp (pps_cons pe_int pe_int pps_nil) (by rfl) (by rfl) (fun z => by cases z) (by decide)) (pa_cons (pe_tup (pa_cons (pe_tup (pa_cons pe_bl pa_nil)) pa_nil)) (pa_cons (pe_cS c_law_deep hr (by first | decide | omega) tk (pa_cons (pv 1) pa_nil)) pa_nil))))))))))))
      (Evl.pss_cut (ps_set (i := 4) sc_law.nd rfl (by first | exact Or.inl rfl | exact Or.inr rfl) (pe_ix ix_list (pv 3) (pe_cS c_law_draw hr (by first | decide | omega) tk (pa_cons (pv 1) (pa_cons pe_int pa_nil))) (fun _ _ => rfl)))
      (Evl.pss_cut (ps_if ((pw_and (pt_not (pt_val (pe_cS c_law_is_plain hr (by first | decide | omega) tk (pa_cons (pv 4) pa_nil)))) (pw_and1 (pt_not (pt_val (pe_cS c_law_is_none hr (by first | decide | omega) tk (pa_cons (pv 4) pa_nil))))))).pt (pss_one (ps_ret pe_bl)) pss_nil)
      (Evl.pss_cut (ps_set (i := 5) sc_law.nd rfl (by first | exact Or.inl rfl | exact Or.inr rfl) (pe_ix ix_list (pe_lst (pa_cons (pe_op op_addS (pe_op op_mulS (pe_sl [40]) pe_int) (pe_op op_mulS (pe_sl [41]) pe_int)) (pa_cons (pe_op op_mulS (pe_sl [49]) pe_int) (pa_cons (pe_op op_addS (pe_sl [45]) (pe_op op_mulS (pe_sl [57]) pe_int)) (pa_cons (pe_op op_mulS (pe_sl [40]) pe_int) (pa_cons (pe_op op_addS (pe_sl [39]) (pe_op op_mulS (pe_sl [97]) pe_int)) pa_nil)))))) (pe_cS c_law_draw hr (by first | decide | omega) tk (pa_cons (pv 1) (pa_cons pe_int pa_nil))) (fun _ _ => rfl)))
      (Evl.pss_cut (ps_if (pt_cmpR (op_neD hu) (pe_cS c_law_told hr (by first | decide | omega) tk (pa_cons (pv 5) pa_nil)) (pe_cS c_law_unpacked hr (by first | decide | omega) tk (pa_cons (pv 5) pa_nil)) (nomark _)) (pss_one (ps_ret pe_bl)) pss_nil)
      (pss_one (ps_ret (pe_cmpR (op_eqD hu) (pe_cS c_law_told hr (by first | decide | omega) tk (pa_cons (pe_cS c_law_any hr (by first | decide | omega) tk (pa_cons (pv 1) (pa_cons (pe_lst (pa_cons pe_non (pa_cons pe_int (pa_cons pe_bl (pa_cons (pe_lst (pa_cons (pe_sl [46]) pa_nil)) (pa_cons (pe_tup (pa_cons (pe_sl [46]) pa_nil)) (pa_cons pe_dnewK pa_nil))))))) pa_nil))) pa_nil)) (pe_tup (pa_cons (pe_sl [119, 114, 111, 110, 103]) (pa_cons (pe_un un_neg pe_int) pa_nil))) (nomark _))))))))))), ?_⟩
  try simp only [cxK]
  walk_at "r"
  refine ⟨a0, ns0, rfl, hsq, hnl, fun a c ns H1 x1 ha hh => ?_⟩
  clear hsq hnl
  refine ⟨fun σ H' => (∃ us : List (Option V), us.length = 8 ∧ σ = some (.ref a0) :: some (.ref a) :: us) ∧ Dr H1 a c ns H', ?_, ?_⟩
  · walk_at "r"
    refine ⟨3, rfl, by decide, by decide, ?_⟩
    refine fo1 walk_range (fun i σ H' => (∃ u2 u3 u4 u5 u6 u7 u8 u9, σ = [some (.ref a0), some (.ref a), u2, u3, u4, u5, u6, u7, u8, u9]) ∧ Dr H1 a c ns H') ⟨⟨none, none, none, none, none, none, none, none, rfl⟩, Dr.refl hh⟩ (fun _ _ _ _ => trivial) ?_ ?_
    · rintro i x σ H2 H3 hi ⟨⟨u2, u3, u4, u5, u6, u7, u8, u9, rfl⟩, d2⟩ ⟨rfl, rfl⟩
      walk_at "r"
      refine ⟨a, c, ns, 4, rfl, by decide, d2.hand, fun v d H3 hd hth hsz d3 => ?_⟩
      refine ⟨fun σ H' => ∃ v d u7, σ = [some (.ref a0), some (.ref a), some (.int (0 + (i : Nat))), u3, u4, u5, some v, u7, u8, u9] ∧ TD H' v d ∧ Tx.isTh d 30 = true ∧ (Tx.pk d).length ≤ 3000 ∧ Dr H1 a c ns H', ?_, ?_⟩
      · walk_at "r"
        refine ⟨a, c, ns, _, rfl, d3.hand, by decide, fun r H4 g1 g2 d4 => ?_⟩
        walk_at "r"
        refine itd (fun h1 => ?_) (fun h1 => ?_)
        · walk_at "r"
          intro p5 hp5
          have h4 := d4.hand
          have hpa := h4.neA hp5
          generalize hU5 : L2.upd H4 p5 _ = H5
          have x5 : Ex H4 H5 := hU5 ▸ Evl.Ex.new hp5
          have e5 : H5 p5 = some (.lst ([2, 29, 30].map V.int)) := hU5 ▸ upd_same
          walk_at "r"
          refine ⟨a, c, ns, _, rfl, h4.ex x5, by decide, fun q H6 g3 g4 d6 => ?_⟩
          obtain ⟨w1, hv, hm⟩ := atI_lt (xs := [2, 29, 30].map V.int) g3 g4
          walk_at "r"
          refine r_ixL (SqL.of (d6.at e5 hpa)) hv ?_
          walk_at "r"
          obtain ⟨k, rfl, hk1, hk2⟩ : ∃ k : Nat, w1 = V.int (k : Nat) ∧ 1 ≤ k ∧ k ≤ 30 := by
            have hm' : w1 = .int 2 ∨ w1 = .int 29 ∨ w1 = .int 30 := by simpa using hm
            rcases hm' with rfl | rfl | rfl
            · exact ⟨2, rfl, by omega, by omega⟩
            · exact ⟨29, rfl, by omega, by omega⟩
            · exact ⟨30, rfl, by omega, by omega⟩
          refine ⟨a, c, ns, k, rfl, hk1, hk2, d6.hand, fun v7 d7 H7 hd7 hth7 hsz7 dr7 => ?_⟩
          walk_at "r"
          exact ⟨v7, d7, u7, rfl, hd7, hth7, by omega, (((d2.trans d3).trans d4).trans (Dr.ex h4 x5)).trans (d6.trans dr7)⟩
        · walk_at "r"
          exact ⟨v, d, u7, rfl, hd.kt (d4.kt d3.hand), isTh_mono d hth (by omega), Nat.le_trans hsz (by decide), (d2.trans d3).trans d4⟩
      · clear hd hth hsz d3 d2
        rintro σ H4 ⟨v, d, u7, rfl, hd, hth, hsz, d4⟩
        walk_at "r"
        refine ⟨v, d, 30, rfl, hd, hth, by omega, by omega, fun H5 x5 => ?_⟩
        refine ⟨fun σ H' => ∃ (u6 : Option V) (t : List Nat), σ = [some (.ref a0), some (.ref a), some (.int (0 + (i : Nat))), u3, u4, u5, u6, some (.str (SX.S t)), u8, u9] ∧ t.length ≤ 3000 ∧ Dr H1 a c ns H', ?_, ?_⟩
        · walk_at "r"
          have hd5 := hd.kt (Ex.kt x5)
          have hgz := gSz_pk hd5
          refine ⟨v, d2g d, rfl, hd5.gr, by omega, .inl ⟨d, hd5, rfl, hth, by omega, fun H6 x6 => ?_⟩⟩
          walk_at "r"
          refine itn (fun z => absurd rfl z) (fun _ => ?_)
          have hshd : SeqAt.shaped (outD (.inl d)) = true := sh_out fun d' e => by cases e; exact hth
          have hd6 := hd5.kt (Ex.kt x6)
          walk_at "r"
          refine ⟨_, rfl, .inl ⟨_, rfl, by omega, fun q7 H7 x7 ho7 => ?_⟩⟩
          rw [Tx.parse_pk d hth] at ho7
          walk_at "r"
          intro p8 hp8
          generalize hU8 : L2.upd H7 p8 _ = H8
          have x8 : Ex H7 H8 := hU8 ▸ Evl.Ex.new hp8
          have e8 : H8 p8 = some (.tup [V.str (SX.S [116, 104, 105, 110, 103]), v]) := hU8 ▸ upd_same
          have ho8 : OutP H8 q7 (.inl d) := by
            obtain ⟨v', e, hd'⟩ := ho7
            exact ⟨v', x8 _ _ e, hd'.kt (Ex.kt x8)⟩
          have hd8 : TD H8 v d := hd6.kt (Ex.kt (Evl.Ex.trans x7 x8))
          refine r_neSame (out_dp ho8) (out_dp (R := .inl d) ⟨v, e8, hd8⟩) hshd ?_
          walk_at "r"
          refine ⟨_, rfl, by omega, fun q9 H9 x9 ho9 => ?_⟩
          rw [Tx.parse_pk d hth] at ho9
          walk_at "r"
          intro p10 hp10
          generalize hU10 : L2.upd H9 p10 _ = H10
          have x10 : Ex H9 H10 := hU10 ▸ Evl.Ex.new hp10
          have e10 : H10 p10 = some (.tup [V.str (SX.S [116, 104, 105, 110, 103]), v]) := hU10 ▸ upd_same
          have ho10 : OutP H10 q9 (.inl d) := by
            obtain ⟨v', e, hd'⟩ := ho9
            exact ⟨v', x10 _ _ e, hd'.kt (Ex.kt x10)⟩
          have hd10 : TD H10 v d := hd8.kt (Ex.kt (Evl.Ex.trans x9 x10))
          refine r_neSame (out_dp ho10) (out_dp (R := .inl d) ⟨v, e10, hd10⟩) hshd ?_
          walk_at "r"
          have x410 : Ex H4 H10 := Evl.Ex.trans x5 (Evl.Ex.trans x6 (Evl.Ex.trans (Evl.Ex.trans x7 x8) (Evl.Ex.trans x9 x10)))
          exact ⟨some v, _, rfl, hsz, d4.trans (Dr.ex d4.hand x410)⟩
        · clear hd hth hsz x5 d4
          rintro σ H6 ⟨u6, t, rfl, ht, d6⟩
          walk_at "r"
          refine ⟨5, rfl, by decide, by decide, ?_⟩
          refine fo1 walk_range (fun j σ H' => (∃ u8 u9, σ = [some (.ref a0), some (.ref a), some (.int (0 + (i : Nat))), u3, u4, u5, u6, some (.str (SX.S t)), u8, u9]) ∧ Dr H1 a c ns H') ⟨⟨u8, u9, rfl⟩, d6⟩ (fun _ _ _ _ => trivial) ?_ ?_
          · clear d6
            rintro j x σ H7 H8 hj ⟨⟨u8, u9, rfl⟩, d7⟩ ⟨rfl, rfl⟩
            walk_at "r"
            refine ⟨a, c, ns, t, rfl, d7.hand, by omega, fun t2 H9 ht2 d9 => ?_⟩
            walk_at "r"
            refine ⟨_, rfl, .inl ⟨_, rfl, ht2, fun q10 H10 x10 ho10 => ?_⟩⟩
            walk_at "r"
            refine ⟨_, rfl, ht2, fun q11 H11 x11 ho11 => ?_⟩
            refine r_neSame (out_dp (outP_ex x11 ho10)) (out_dp ho11) (sh_parse t2) ?_
            walk_at "r"
            exact ⟨⟨_, _, rfl⟩, (d7.trans d9).trans (Dr.ex d9.hand (Evl.Ex.trans x10 x11))⟩
          · rintro σ H7 ⟨⟨u8, u9, rfl⟩, d7⟩
            exact ⟨⟨_, _, _, _, _, _, _, _, rfl⟩, d7⟩
    · rintro σ H2 ⟨⟨u2, u3, u4, u5, u6, u7, u8, u9, rfl⟩, d2⟩
      exact ⟨⟨_, rfl, rfl⟩, d2⟩
  · rintro σ H2 ⟨⟨us, hus, rfl⟩, d2⟩
    obtain ⟨u2, u3, u4, u5, u6, u7, u8, u9, rfl⟩ : ∃ u2 u3 u4 u5 u6 u7 u8 u9, us = [u2, u3, u4, u5, u6, u7, u8, u9] := by
      match us, hus with
      | [u2, u3, u4, u5, u6, u7, u8, u9], _ => exact ⟨u2, u3, u4, u5, u6, u7, u8, u9, rfl⟩
    clear hus
    refine ⟨fun σ H' => ∃ (p : Addr) (vs : List V), σ = [some (.ref a0), some (.ref a), u2, some (.ref p), u4, u5, u6, u7, u8, u9] ∧ H' p = some (.lst vs) ∧ p ≠ a ∧ vs.length = 10 ∧ (∀ v ∈ vs, ∃ g, GR H' v g ∧ okG g ∧ gSz g ≤ 1000) ∧ Dr H1 a c ns H', ?_, ?_⟩
    · walk_at "r"
      intro p11 hp11
      generalize hU11 : L2.upd H2 p11 _ = K11
      have x11 : Ex H2 K11 := hU11 ▸ Evl.Ex.new hp11
      have e11 : K11 p11 = some (.lst []) := hU11 ▸ upd_same
      walk_at "r"
      intro p12 hp12
      generalize hU12 : L2.upd K11 p12 _ = K12
      have x12 : Ex K11 K12 := hU12 ▸ Evl.Ex.new hp12
      have e12 : K12 p12 = some (.dK []) := hU12 ▸ upd_same
      walk_at "r"
      intro p13 hp13
      generalize hU13 : L2.upd K12 p13 _ = K13
      have x13 : Ex K12 K13 := hU13 ▸ Evl.Ex.new hp13
      have e13 : K13 p13 = some (.tup [V.int 1, V.bl true]) := hU13 ▸ upd_same
      walk_at "r"
      intro p14 hp14
      generalize hU14 : L2.upd K13 p14 _ = K14
      have x14 : Ex K13 K14 := hU14 ▸ Evl.Ex.new hp14
      have e14 : K14 p14 = some (.lst []) := hU14 ▸ upd_same
      walk_at "r"
      intro p15 hp15
      generalize hU15 : L2.upd K14 p15 _ = K15
      have x15 : Ex K14 K15 := hU15 ▸ Evl.Ex.new hp15
      have e15 : K15 p15 = some (.tup [V.ref p14]) := hU15 ▸ upd_same
      walk_at "r"
      intro p16 hp16
      generalize hU16 : L2.upd K15 p16 _ = K16
      have x16 : Ex K15 K16 := hU16 ▸ Evl.Ex.new hp16
      have e16 : K16 p16 = some (.tup [V.str (SX.S [97, 10, 98])]) := hU16 ▸ upd_same
      walk_at "r"
      intro p17 hp17
      show tC (V.int 0) _ _ fun x H1 => tC (V.int 1) _ H1 fun y H2 => _
      walk_at "r"
      show (L2.upd K16 p17 (.dK [])) p17 = some (.dK []) ∧ _
      refine ⟨upd_same, [(.inl 0, V.int 1)], rfl, by simp, ?_⟩
      generalize hU17 : L2.upd (L2.upd K16 p17 (.dK [])) p17 _ = K17
      have x17 : Ex K16 K17 := hU17 ▸ Evl.Ex.mut (Evl.Ex.new hp17) hp17
      have e17 : K17 p17 = some (.dK (mergeK [] [(.inl 0, V.int 1)])) := hU17 ▸ upd_same
      walk_at "r"
      intro p18 hp18
      generalize hU18 : L2.upd K17 p18 _ = K18
      have x18 : Ex K17 K18 := hU18 ▸ Evl.Ex.new hp18
      have e18 : K18 p18 = some (.tup [V.bl false]) := hU18 ▸ upd_same
      walk_at "r"
      intro p19 hp19
      generalize hU19 : L2.upd K18 p19 _ = K19
      have x19 : Ex K18 K19 := hU19 ▸ Evl.Ex.new hp19
      have e19 : K19 p19 = some (.tup [V.ref p18]) := hU19 ▸ upd_same
      walk_at "r"
      have y18 : Ex K18 K19 := x19
      have y17 : Ex K17 K19 := Evl.Ex.trans x18 y18
      have y16 : Ex K16 K19 := Evl.Ex.trans x17 y17
      have y15 : Ex K15 K19 := Evl.Ex.trans x16 y16
      have y14 : Ex K14 K19 := Evl.Ex.trans x15 y15
      have y13 : Ex K13 K19 := Evl.Ex.trans x14 y14
      have y12 : Ex K12 K19 := Evl.Ex.trans x13 y13
      have y11 : Ex K11 K19 := Evl.Ex.trans x12 y12
      have y2 : Ex H2 K19 := Evl.Ex.trans x11 y11
      have h19 := d2.hand.ex y2
      refine ⟨a, c, ns, rfl, h19, fun v g H20 hg hok hz d20 => ?_⟩
      have kg := d20.kg h19
      walk_at "r"
      intro p21 hp21
      have hpa := d20.hand.neA hp21
      generalize hU21 : L2.upd H20 p21 _ = H21
      have x21 : Ex H20 H21 := hU21 ▸ Evl.Ex.new hp21
      have kx := Ex.kg x21
      have e21 : H21 p21 = some (.lst [V.bl true, V.ref p11, V.ref p12, V.str (SX.S [10]), V.ref p13, V.ref p15, V.ref p16, V.ref p17, V.ref p19, v]) := hU21 ▸ upd_same
      walk_at "r"
      refine ⟨p21, _, rfl, e21, hpa, rfl, fun w1 hw => ?_, (d2.trans (Dr.ex d2.hand y2)).trans (d20.trans (Dr.ex d20.hand x21))⟩
      have hw' : w1 = V.bl true ∨ w1 = V.ref p11 ∨ w1 = V.ref p12 ∨ w1 = V.str (SX.S [10]) ∨ w1 = V.ref p13 ∨ w1 = V.ref p15 ∨ w1 = V.ref p16 ∨ w1 = V.ref p17 ∨ w1 = V.ref p19 ∨ w1 = v := by simpa using hw
      rcases hw' with rfl | rfl | rfl | rfl | rfl | rfl | rfl | rfl | rfl | rfl
      · exact ⟨_, .bl true, .inr fun n => by simp [gTh], by simp [gSz]⟩
      · exact ⟨_, ((GR.lst e11).kg (Ex.kg y11)).kg kg |>.kg kx, .inr fun n => by simp [gTh], by simp [gSz]⟩
      · exact ⟨_, ((GR.dic e12).kg (Ex.kg y12)).kg kg |>.kg kx, .inr fun n => by simp [gTh], by simp [gSz]⟩
      · exact ⟨_, .str [10], .inr fun n => by simp [gTh]; decide, by simp [gSz]⟩
      · exact ⟨_, ((GR.tup e13 (.cons (.int 1) (.cons (.bl true) .nil))).kg (Ex.kg y13)).kg kg |>.kg kx, .inr fun n => by cases n <;> simp [gTh, gThs], by simp [gSz, gSzs]⟩
      · exact ⟨_, ((GR.tup e15 (.cons (.lst (x15 _ _ e14)) .nil)).kg (Ex.kg (Evl.Ex.trans x16 y16))).kg kg |>.kg kx, .inr fun n => by cases n <;> simp [gTh, gThs], by simp [gSz, gSzs]⟩
      · exact ⟨_, ((GR.tup e16 (.cons (.str [97, 10, 98]) .nil)).kg (Ex.kg y16)).kg kg |>.kg kx, .inr fun n => by cases n <;> simp [gTh, gThs] <;> decide, by simp [gSz, gSzs]⟩
      · exact ⟨_, ((GR.dic e17).kg (Ex.kg y17)).kg kg |>.kg kx, .inr fun n => by simp [gTh], by simp [gSz]⟩
      · exact ⟨_, ((GR.tup e19 (.cons (.tup (x19 _ _ e18) (.cons (.bl false) .nil)) .nil)).kg kg).kg kx, .inr fun n => by cases n with
          | zero => simp [gTh]
          | succ n => cases n <;> simp [gTh, gThs], by simp [gSz, gSzs]⟩
      · exact ⟨g, hg.kg kx, hok, hz⟩
    · clear d2
      rintro σ H3 ⟨p, vs, rfl, hp, hpa, hvl, hvs, d3⟩
      refine ⟨fun σ H' => ∃ v g, σ = [some (.ref a0), some (.ref a), u2, some (.ref p), some v, u5, u6, u7, u8, u9] ∧ GR H' v g ∧ okG g ∧ gSz g ≤ 1000 ∧ Dr H1 a c ns H', ?_, ?_⟩
      · walk_at "r"
        refine ⟨a, c, ns, _, rfl, d3.hand, by decide, fun r H4 g1 g2 d4 => ?_⟩
        obtain ⟨v, hv, hm⟩ := atI_lt (xs := vs) g1 (by omega)
        obtain ⟨g, hg, hok, hz⟩ := hvs v hm
        walk_at "r"
        refine r_ixL (SqL.of (d4.at hp hpa)) hv ?_
        walk_at "r"
        exact ⟨v, g, rfl, hg.kg (d4.kg d3.hand), hok, hz, d3.trans d4⟩
      · clear hp hpa hvl hvs d3
        rintro σ H4 ⟨v, g, rfl, hg, hok, hz, d4⟩
        refine ⟨fun σ H' => σ = [some (.ref a0), some (.ref a), u2, some (.ref p), some v, u5, u6, u7, u8, u9] ∧ Dr H1 a c ns H', ?_, ?_⟩
        · walk_at "r"
          refine ⟨v, g, rfl, hg, fun H5 x5 => ?_⟩
          have d5 := d4.trans (Dr.ex d4.hand x5)
          walk_at "r"
          by_cases hpl : isPl g = true
          · rw [hpl]
            walk_at "r"
            exact ⟨rfl, d5⟩
          · have hpl' : isPl g = false := by simpa using hpl
            rw [hpl']
            have hth : gTh g 30 = false := hok.elim (fun z => absurd z hpl) fun z => z 30
            walk_at "r"
            refine ⟨v, g, rfl, hg.kg (Ex.kg x5), by omega, hth, fun H6 x6 => ?_⟩
            walk_at "r"
            exact ⟨rfl, d5.trans (Dr.ex d5.hand x6)⟩
        · clear hg hok hz d4
          rintro σ H5 ⟨rfl, d5⟩
          refine ⟨fun σ H' => ∃ t : List Nat, σ = [some (.ref a0), some (.ref a), u2, some (.ref p), some v, some (.str (SX.S t)), u6, u7, u8, u9] ∧ t.length ≤ 10000 ∧ Dr H1 a c ns H', ?_, ?_⟩
          · walk_at "r"
            refine r_mulS (by decide) (by decide) (by decide) fun m1 k1 => ?_
            have k1 : m1.length ≤ 32 := k1
            walk_at "r"
            refine r_mulS (by decide) (by decide) (by decide) fun m2 k2 => ?_
            have k2 : m2.length ≤ 32 := k2
            walk_at "r"
            refine r_mulS (by decide) (by decide) (by decide) fun m3 k3 => ?_
            have k3 : m3.length ≤ 32 := k3
            walk_at "r"
            refine r_mulS (by decide) (by decide) (by decide) fun m4 k4 => ?_
            have k4 : m4.length ≤ 32 := k4
            walk_at "r"
            refine r_mulS (by decide) (by decide) (by decide) fun m5 k5 => ?_
            have k5 : m5.length ≤ 41 := k5
            walk_at "r"
            refine r_mulS (by decide) (by decide) (by decide) fun m6 k6 => ?_
            have k6 : m6.length ≤ 51 := k6
            walk_at "r"
            intro p6 hp6
            have h5 := d5.hand
            have hpa := h5.neA hp6
            generalize hU6 : L2.upd H5 p6 _ = H6
            have x6 : Ex H5 H6 := hU6 ▸ Evl.Ex.new hp6
            have e6 : H6 p6 = some (.lst (([m1 ++ m2, m3, [45] ++ m4, m5, [39] ++ m6] : List (List Nat)).map fun l => V.str (SX.S l))) := hU6 ▸ upd_same
            walk_at "r"
            refine ⟨a, c, ns, _, rfl, h5.ex x6, by decide, fun q H7 g3 g4 d7 => ?_⟩
            obtain ⟨w1, hv, hm⟩ := atI_lt (xs := ([m1 ++ m2, m3, [45] ++ m4, m5, [39] ++ m6] : List (List Nat)).map fun l => V.str (SX.S l)) g3 g4
            walk_at "r"
            refine r_ixL (SqL.of (d7.at e6 hpa)) hv ?_
            walk_at "r"
            obtain ⟨t, hmt, rfl⟩ := List.mem_map.mp hm
            refine ⟨t, rfl, ?_, (d5.trans (Dr.ex h5 x6)).trans d7⟩
            simp only [List.mem_cons, List.not_mem_nil, or_false] at hmt
            rcases hmt with rfl | rfl | rfl | rfl | rfl <;> (try simp only [List.length_append, List.length_cons, List.length_nil]) <;> omega
          · clear d5
            rintro σ H6 ⟨t, rfl, ht, d6⟩
            refine ⟨fun σ H' => σ = [some (.ref a0), some (.ref a), u2, some (.ref p), some v, some (.str (SX.S t)), u6, u7, u8, u9] ∧ Dr H1 a c ns H', ?_, ?_⟩
            · walk_at "r"
              refine ⟨_, rfl, .inl ⟨_, rfl, by omega, fun q10 H10 x10 ho10 => ?_⟩⟩
              walk_at "r"
              refine ⟨_, rfl, by omega, fun q11 H11 x11 ho11 => ?_⟩
              refine r_neSame (out_dp (outP_ex x11 ho10)) (out_dp ho11) (sh_parse t) ?_
              walk_at "r"
              exact ⟨rfl, d6.trans (Dr.ex d6.hand (Evl.Ex.trans x10 x11))⟩
            · clear d6
              rintro σ H7 ⟨rfl, d7⟩
              walk_at "r"
              intro p11 hp11
              generalize hU11 : L2.upd H7 p11 _ = K11
              have x11 : Ex H7 K11 := hU11 ▸ Evl.Ex.new hp11
              have e11 : K11 p11 = some (.lst [V.str (SX.S [46])]) := hU11 ▸ upd_same
              walk_at "r"
              intro p12 hp12
              generalize hU12 : L2.upd K11 p12 _ = K12
              have x12 : Ex K11 K12 := hU12 ▸ Evl.Ex.new hp12
              have e12 : K12 p12 = some (.tup [V.str (SX.S [46])]) := hU12 ▸ upd_same
              walk_at "r"
              intro p13 hp13
              generalize hU13 : L2.upd K12 p13 _ = K13
              have x13 : Ex K12 K13 := hU13 ▸ Evl.Ex.new hp13
              have e13 : K13 p13 = some (.dK []) := hU13 ▸ upd_same
              walk_at "r"
              have y7 : Ex H7 K13 := Evl.Ex.trans (Evl.Ex.trans x11 x12) x13
              intro p14 hp14
              have hpa := (d7.hand.ex y7).neA hp14
              generalize hU14 : L2.upd K13 p14 _ = K14
              have x14 : Ex K13 K14 := hU14 ▸ Evl.Ex.new hp14
              have e14 : K14 p14 = some (.lst [V.non, V.int 5, V.bl true, V.ref p11, V.ref p12, V.ref p13]) := hU14 ▸ upd_same
              walk_at "r"
              have h14 := d7.hand.ex (Evl.Ex.trans y7 x14)
              refine ⟨a, c, ns, _, rfl, h14, .inl ⟨p14, _, rfl, e14, hpa, by simp, by simp, fun w1 H15 hw d15 => ?_⟩⟩
              have kg := d15.kg h14
              have y12 : Ex K12 K14 := Evl.Ex.trans x13 x14
              have y11 : Ex K11 K14 := Evl.Ex.trans x12 y12
              obtain ⟨g, hg, hns⟩ : ∃ g, GR H15 w1 g ∧ ∀ l, g ≠ .str l := by
                have hw' : w1 = V.non ∨ w1 = V.int 5 ∨ w1 = V.bl true ∨ w1 = V.ref p11 ∨ w1 = V.ref p12 ∨ w1 = V.ref p13 := by simpa using hw
                rcases hw' with rfl | rfl | rfl | rfl | rfl | rfl
                · exact ⟨_, .non, fun l z => by cases z⟩
                · exact ⟨_, .int 5, fun l z => by cases z⟩
                · exact ⟨_, .bl true, fun l z => by cases z⟩
                · exact ⟨_, ((GR.lst e11).kg (Ex.kg y11)).kg kg, fun l z => by cases z⟩
                · exact ⟨_, ((GR.tup e12 (.cons (.str [46]) .nil)).kg (Ex.kg y12)).kg kg, fun l z => by cases z⟩
                · exact ⟨_, ((GR.dic e13).kg (Ex.kg x14)).kg kg, fun l z => by cases z⟩
              walk_at "r"
              refine ⟨w1, rfl, .inr ⟨g, hg, hns, fun q16 H16 x16 e16 => ?_⟩⟩
              walk_at "r"
              intro p17 hp17
              have x17 : Ex H16 (L2.upd H16 p17 (.tup [.str (SX.S [119, 114, 111, 110, 103]), .int (-1)])) := Evl.Ex.new hp17
              refine r_eqSame (d := .tuple [.str (SX.S [119, 114, 111, 110, 103]), .int (-1)]) (.tup (SqT.of (x17 _ _ e16)) (.cons (.str _) (.cons (.int _) .nil))) (.tup (SqT.of upd_same) (.cons (.str _) (.cons (.int _) .nil))) (by decide +kernel) ?_
              walk_at "r"
              exact hQ _
end
end K54
set_option Elab.async false
set_option linter.all false
set_option maxRecDepth 100000
set_option maxHeartbeats 4000000
namespace K54
open PySem PySem.Spec PyProof.Rows L2 KB
theorem facts {P : Program} {w : World} {K : PySem.W.Frag} {h : Heap} {mg : Str → Option Value} {f : Addr} (hP : P = PP) (X : K.In h) (G : h.Ns mainGlobals mg) (hf : mg ("law" : Str) = some (.ref f)) (c : HB.SaysB fa fn ex [pB] vB K) :
    ∃ fd : FuncData, (∀ (s : Shared) (v : Value), BindsTo s fd ⟨[v], []⟩ [("_law_script", v)]) ∧ ∀ base : Heap, K.In base → base.Ns mainGlobals mg → FnOk P w K mg base CX0 65 f fd ["_law_script"] (spLaw K) := by
  subst hP
  have S : C54 K mg := ⟨⟨h, X, G⟩, c.d, c.more⟩
  have B := bad_txt c (S.glo "BadText") (S.free "super")
  have R := errs c
  obtain ⟨fd, F⟩ := c.d.defs (show d_law ∈ fn by simp [fn])
  have e := hf.symm.trans (S.glo "law")
  cases e
  have b := FunD.bindsA (ps := ["_law_script"]) F fun _ _ _ _ _ _ us hl => match us, hl with | [_], _ => rfl
  exact ⟨fd, fun s v => b s [v] rfl, fun base _ _ => ok_law S B R F⟩
end K54
open PySem PySem.W PySem.Calls PyProof.Rows
theorem PySem.Challenge.cw_keptmisses_k54_whole_things_as_texts_holds : PySem.Challenge.rw_keptmisses_k54_whole_things_as_texts.Holds := by
  w_on; o_law
  refine HandSHeadRun.head_any (r := K54.R) (q := view K54.R.prog [38]) (H := K54.hk) (ob := K54.ob) (M := 4000) (loose := K54.loose) (d := HandSHeadRun.topDef K54.R.prog 38) (kwd := []) K54.ob_eq
    (by kernel_rfl) (fun s => by kernel_rfl) K54.run (by kernel_rfl) (by kernel_rfl) (by kernel_rfl) (by rfl) (by first | assumption | decide +kernel) (by decide +kernel) ⟨rfl, rfl, rfl, rfl, rfl, by decide +kernel⟩ ?hw ?hc
  case hw => w_witness2
  case hc =>
    refine L2.walk_ofE (l := K54.RL) (n := 63) (k := 65) (x := "_law_script") (CX := L2.CX0) rfl (by decide) (by kernel_rfl) ⟨rfl, by decide, by decide⟩ ?F (fun _ _ _ _ z => z)
    intro w mg f h Y G hmg0
    obtain ⟨K, KX, c⟩ := Y
    have hmg : mg ("law" : PySem.Str) = some (.ref f) := by
      have e : (HandSHeadRun.topDef K54.R.prog 38).name = ("law" : PySem.Str) := by kernel_rfl
      rw [← e]
      exact hmg0
    obtain ⟨fd, hb, hF⟩ := K54.facts (P := K54.RL.prog) (w := w) rfl KX G hmg c
    exact ⟨K, fd, K54.spLaw K, KX, hb, fun H a ns hl _ hS => ⟨a, ns, rfl, hS, by omega, fun _ => rfl⟩, hF⟩
