import PyProof.Rows.All
import Wide.All
import OpenK.AllK
import Wide.FinOn
import PyProof.EqAt
import PyProof.EqKinds
import PyProof.TupleCall
import Open.SpecLaws
import KE.OsGo
import KE.KExcInit
import HandS.ForSpec
import HandS.ForMost
import HandS.ExcCtx
import HandS.TryElse
import HandS.RaiseFrom
import HandS.SuiteRaise
import HandS.ExcField
import HandS.Codes
import HandS.HeadHook2
import HandS.More
import HandS.Lambda
import HandS.Nested
import HandS.SortKw
import KE.DatumOrd
import HandS.Hot
import FhCheck
import HandS.Walk
import HandS.Conv
import HandS.HeadHook4
import HandS.HeadEnd
import KE.OsHead
import HandS.Head2
import HandS.Spec
import KE.BitLaws
import HandS.Steps
import KE.OsArith
import HandS.WordsExc
import PySem.Challenge.RW_targetchecks_s03_number
set_option Elab.async false
set_option linter.all false
set_option maxRecDepth 100000
set_option maxHeartbeats 0
/-! Own exceptions over Exception, whose __init__ says Exception.__init__(self, text) and stores one field; and those whose __init__ hands a list on to such a one. -/
namespace PySem
namespace Ego
open PySem.HandSPX PySem.W PySem.Calls PyProof.Rows
abbrev bmE : List Value := [.type "Exception", .type "BaseException", .type "object"]
/-! the text of such an __init__: a the second parameter, also the field's name -/
def iA (a : Str) (p1 p2 : Pos) : Arguments := { posonlyargs := [], args := [{ arg := "self", annotation := none, pos := p1 }, { arg := a, annotation := none, pos := p2 }], vararg := none, kwonlyargs := [], kw_defaults := [], kwarg := none, defaults := [] }
def iB (a msg : Str) (q1 q2 q3 q4 q5 q6 q7 q8 q9 q10 : Pos) : List Stmt :=
  [.Expr (.Call (.Attribute (.Name "Exception" q1) "__init__" q2) [.Name "self" q3, .Constant (.str msg) 0 q4] [] q5) q6, .Assign [.Attribute (.Name "self" q7) a q8] (.Name a q9) q10]
def iS (a : Str) : Scope := { kind := .function, names := [(PySem.Str.ofString "self", .local), (a, .local), (PySem.Str.ofString "Exception", .globalImplicit)], isGenerator := false, isCoroutine := false, more := [] }
/-- an own exception class, its field named f -/
structure EC (K : Frag) (C : Addr) (f : Str) : Prop where
  xi : excInitIn K C bmE "Exception.__new__" = true
  xo : excOver K C bmE = true
  hd : hasDictIn K C = true
  sa : findIn K (.ref C) "__setattr__" = some (some (.builtin "object.__setattr__"))
  tk : takerIn K C f = some none
/-- the __init__ at fI -/
structure IT (K : Frag) (fI : Addr) (f : Str) : Prop where
  fn : ∃ (oc : Value) (od : Option Addr) (doc pm : Value) (an : Option Addr) (cdv ct kV : Value) (osl : Array (Option Value)) (qual msg : Str) (p1 p2 q1 q2 q3 q4 q5 q6 q7 q8 q9 q10 : Pos), (q2.endLine == q5.line) = true ∧
    K.lookup fI = some ⟨oc, od, .func (fnOf "__init__" qual (iA f p1 p2) (iB f msg q1 q2 q3 q4 q5 q6 q7 q8 q9 q10) (iS f) .none kV doc pm an cdv ct), osl⟩ ∧ codeIn K cdv qual = true
/-- the names of the module and of the built-ins -/
structure GB (h : Heap) (mg : Str → Option Value) : Prop where
  g : h.Ns mainGlobals mg
  b : ∃ mb, h.Ns builtinsNs mb ∧ ∀ x : Str, x ≠ "__name__" → mb x = bootBuiltins x
theorem GB.keeps {h h' : Heap} {mg : Str → Option Value} (x : GB h mg) (k : ∀ b o, h.get? b = some o → h'.get? b = some o) : GB h' mg :=
  ⟨x.g.keeps k, let ⟨mb, h1, h2⟩ := x.b; ⟨mb, h1.keeps k, h2⟩⟩
theorem ld_local {M : Model} {s : Shared} {name : Str} {scope : Scope} {L a : Addr} {cdz : Value} {m : Str → Option Value} {x : Str} {pos : Pos} {v : Value} {Q : Value → Shared → Prop} {A : Around} {E : Value → Shared → Prop} (hn : s.heap.Ns L m) (hv : m x = some v) (h : Q v s)
    (hk : scope.kind = .function := by rfl) (hl : (envOfC name scope L a cdz).kindOf x = some .local := by rfl) (hd : (x == ("__debug__" : Str)) = false := by decide) :
    wpAny M A (eval (.Name x pos) (envOfC name scope L a cdz)) Q E s := wpAny_Name (wpAny_loadName_local hk hl hn hv h) hd
theorem kept_one {K : Frag} {h h' : Heap} {x : Addr} (X : K.In h) (hx : K.lookup x = none) (k : ∀ b o, b ≠ x → h.get? b = some o → h'.get? b = some o) : K.In h' := fun a o e =>
  k a o (fun zz => by rw [zz, hx] at e; cases e) (X a o e)
/-- what such an __init__ leaves of a fresh exception at x: its dict dx, new, holds the field -/
structure Done (h h' : Heap) (x C : Addr) (f : Str) (v : Value) (dx t1 : Addr) : Prop where
  keep : ∀ b o, b ≠ x → h.get? b = some o → h'.get? b = some o
  obj : h'.get? x = some { cls := .ref C, dict := some dx, data := .fields #[.ref t1, .none, .none, .none, .bool false, .none] }
  dbig : h.objs.size ≤ dx
  dne : dx ≠ x
  ns : h'.Ns1 dx (fun yz => if yz = f then some v else none)
theorem typ_Exc : typeOf (.type "Exception") = pure (.type "type") := by kernel_rfl
section
variable {prog : Program} {w : World} {A : Around} {E : Value → Shared → Prop} {R : Result → Shared → Prop} {hp : Heap} {g : Array GenState} {d : Drawn} {t : Nat} {os : OsState} {K : Frag} {mg : Str → Option Value} {C fI : Addr} {f : Str}
/-- the first field of an exception that has no dict as yet -/
theorem first_field {x : Addr} {v : Value} {fv : Array Value} {Q : Unit → Shared → Prop} (T : EC K C f) (X : K.In hp) (hx : hp.get? x = some { cls := .ref C, data := .fields fv })
    (hq : ∀ h' tkz' dx, (∀ b o, b ≠ x → hp.get? b = some o → h'.get? b = some o) → hp.objs.size ≤ dx → dx ≠ x → h'.get? x = some { cls := .ref C, dict := some dx, data := .fields fv } →
      h'.Ns1 dx (fun yz => if yz = f then some v else none) → Q () ⟨h', g, d, tkz', os⟩) :
    wpAny (model prog w) A (setAttr (.ref x) f v) Q E ⟨hp, g, d, t, os⟩ := by
  refine set_plain X (ox := { cls := .ref C, data := .fields fv }) (od := none) ⟨hx, rfl, rfl, trivial⟩ T.sa ?_
  refine osa_openX F.store_Exception X (ox := { cls := .ref C, data := .fields fv }) (od := none) ⟨hx, rfl, rfl, trivial⟩ T.xo T.tk fun b => ?_
  show wpAny _ _ (Builtin.ObjectAttr.storeInOwnDict (.ref x) (.ref C) (.str f t) f v b) _ _ _
  obtain ⟨cdz, hcdz, hhz⟩ : ∃ cdz, clsIn K C = some cdz ∧ cdz.hasDict = true := by
    have zz := T.hd
    unfold hasDictIn at zz
    cases e : clsIn K C with
    | none => rw [e] at zz; cases zz
    | some cdz => rw [e] at zz; exact ⟨cdz, rfl, zz⟩
  have hclsz : Looks (model prog w) hp (classData C) cdz := looks_clsIn X hcdz
  have hxsz : x ≠ hp.objs.size := Nat.ne_of_lt (Heap.lt_size hx)
  obtain ⟨nmz, bsz, mroz, ns, qnz, hd, snz, sbz, abz, colz, delz⟩ := cdz
  dsimp only at hhz
  subst hhz
  unfold Builtin.ObjectAttr.storeInOwnDict Builtin.ObjectAttr.ownDictForStores
  repeat (first | with_reducible refine HandSPX.store_in_new ?_ ?_ | with_reducible refine wpAny_loadPart_at hx ?_ | with_reducible refine hclsz.at ?_ | wp_step)
  · exact ⟨_, #[], _, (Heap.get?_update_ne _ _ _ _ hxsz.symm).trans (Heap.get?_push_at rfl rfl), rfl, fun e hez => absurd hez (by simp), fun _ => rfl⟩
  · intro h' tkz' hnz' hsz
    have hx1z : (hp.push { cls := .type "dict", data := .dict #[] }).get? x = some { cls := .ref C, data := .fields fv } := Heap.get?_push_of_some _ hx
    refine hq h' tkz' hp.objs.size (fun b o hbz hoz => ?_) (Nat.le_refl _) hxsz.symm ?_ hnz'
    · exact (hsz.2 b (Nat.ne_of_lt (Heap.lt_size hoz))).trans ((Heap.get?_update_ne _ _ _ _ hbz).trans (Heap.get?_push_of_some _ hoz))
    · exact (hsz.2 x hxsz).trans (Heap.get?_update_self _ hx1z rfl)
end
end Ego
end PySem
namespace PySem
namespace Ego
open PySem.HandSPX PySem.W PySem.Calls PyProof.Rows
section
variable {prog : Program} {w : World} {A : Around} {E : Value → Shared → Prop} {R : Result → Shared → Prop} {s : Shared} {K : Frag} {mg : Str → Option Value} {C fI : Addr} {f : Str}
/-- a built-in's name read in such a frame -/
theorem ld_builtin {M : Model} {s : Shared} {name : Str} {scope : Scope} {L a : Addr} {cd : Value} {x : Str} {pos : Pos} {v : Value} {Q : Value → Shared → Prop} {A : Around} {E : Value → Shared → Prop}
    (G : GB s.heap mg) (hm : mg x = none) (hv : bootBuiltins x = some v) (h : Q v s) (hk : scope.kind = .function := by rfl) (hlz : (envOfC name scope L a cd).kindOf x = some .globalImplicit := by rfl)
    (hnz : x ≠ "__name__" := by decide) (hd : (x == ("__debug__" : Str)) = false := by decide) : wpAny M A (eval (.Name x pos) (envOfC name scope L a cd)) Q E s := by
  obtain ⟨mbz, h1z, h2z⟩ := G.b
  exact Calls.Name_function_global hk hlz (Calls.loadGlobal_builtin G.g hm h1z ((h2z x hnz).trans hv) h) hd
theorem ld_global {M : Model} {s : Shared} {name : Str} {scope : Scope} {L a : Addr} {cd : Value} {x : Str} {pos : Pos} {v : Value} {Q : Value → Shared → Prop} {A : Around} {E : Value → Shared → Prop}
    (G : GB s.heap mg) (hm : mg x = some v) (h : Q v s) (hk : scope.kind = .function := by rfl) (hlz : (envOfC name scope L a cd).kindOf x = some .globalImplicit := by rfl) (hd : (x == ("__debug__" : Str)) = false := by decide) : wpAny M A (eval (.Name x pos) (envOfC name scope L a cd)) Q E s :=
  Calls.Name_function_global hk hlz (Calls.loadGlobal_global G.g hm h) hd
theorem one_le (v : Value) : [v].length ≤ sizeLine := by
  rw [sizeLine_eq]
  exact (by decide : 1 ≤ 16777216)
/-- o.m(a, b) on one line -/
theorem meth_line {x : Str} {env : Env} {p apos pos : Pos} {m : Str} {a b : Expr} (hlz : (apos.endLine == pos.line) = true) (ha : starEach [a, b] env = [(false, eval a env), (false, eval b env)]) : eval (.Call (.Attribute (.Name x p) m apos) [a, b] [] pos) env = (do
      let ov ← eval (.Name x p) env
      standAt apos.atName
      let (f, first) ← holding [ov] (getMethod ov m (do return (← importBound (.Name x p) env).getD true))
      callWith pos f first (backTo pos (starEach [a, b] env)) (backToKw pos (keywordEach [] env))) := by
  have e1z : methodCallForm 2 (backTo pos (starEach [a, b] env)) (backToKw pos (keywordEach [] env)) = true := by rw [ha]; rfl
  have e2z : methodCallPos true (.Name x p) env apos pos = pure pos := by
    unfold methodCallPos
    rw [hlz] <;> rfl
  rw [arm_eval_Call]
  show (do
    let ov ← eval (.Name x p) env
    standAt apos.atName
    methodCall (.Name x p) m apos pos env ov 2 (backTo pos (starEach [a, b] env)) (backToKw pos (keywordEach [] env))) = _
  unfold methodCall
  rw [e1z, e2z]
  rfl
/-- selfz.__init__(v): Exception.__init__(selfz, text); selfz.place = v -/
theorem init_place (T : EC K C "place") (I : IT K fI "place") {x t0 : Addr} {v : Value} (X : K.In s.heap) (G : GB s.heap mg) (hE : mg "Exception" = none)
    (vE : findCls K (.type "Exception") (.type "type") "__init__" = some (.val (.builtin "Exception.__init__")))
    (hlim : s.heap.NoLimit) (hx : s.heap.get? x = some (HandSPX.excO C t0)) (hnx : K.lookup x = none) (hroom : A.depth < recursionLimit)
    (hq : ∀ h' tk dx t1z, Done s.heap h' x C "place" v dx t1z → R (.ok (.ret .none)) { s with heap := h', toks := tk }) :
    codeAny (model prog w) A (.call (.ref fI) ⟨[.ref x, v], []⟩) R s := by
  obtain ⟨ocz, od, docz, pmz, anz, cdvz, ctz, kVz, oslz, qualz, msgz, p1z, p2z, q1z, q2z, q3z, q4z, q5z, q6z, q7z, q8z, q9z, q10, hlz, hoz, hcdz⟩ := I.fn
  refine Att.call_fn (binds := [("self", .ref x), ("place", v)]) X hlim hoz hcdz hroom (BindsTo.of_eq (by first | rfl | with_unfolding_all rfl)) (by first | rfl | decide | with_unfolding_all rfl) (fun s1z IC => ?_) rfl rfl rfl
  obtain ⟨h1z, tk1z, rfl⟩ := IC.toInCall.same
  have k1z : ∀ b o, s.heap.get? b = some o → h1z.get? b = some o := IC.toInCall.keep
  have hnz := IC.toInCall.ns
  have X1 : K.In h1z := X.keeps k1z
  have G1 : GB h1z mg := G.keeps k1z
  have hx1z := k1z _ _ hx
  obtain ⟨nmz, N, qnz, bsz, bmz, hdctz, snz, subz, abz, colz, ddz, z0z, z1z, z2z, z3z, z5z, hCz, hTz⟩ := excInit_of X1 T.xi
  have hszz : s.heap.objs.size < h1z.objs.size := hnz.lt
  have hLz : s.heap.objs.size ≠ x := Nat.ne_of_gt (Heap.lt_size hx)
  show wpAny _ _ (execs _ _) _ _ _
  refine wpAny_execs_cons (wpAny_Expr_any ?_)
  refine methodCall_KW (pl := do return (← importBound (.Name "Exception" q1z) (envOfC qualz (iS "place") s.heap.objs.size fI cdvz)).getD true) (ld_builtin G1 hE PyProof.Rows.Boot.«Exception» ?_) (meth_line hlz rfl)
  refine method_type (F := (⟨hnz, k1z, Nat.le_refl _⟩ : Fr s.heap s.heap.objs.size h1z _)) X typ_Exc (by decide +kernel) vE (by decide +kernel) ?_
  show wpAny _ _ (callWith _ (Value.builtin "Exception.__init__") [] (backTo _ (starEach _ _)) []) _ _ _
  refine PyProof.Rows.callWith_method1 ?_ (by rfl) (by rfl)
  show wpAny _ _ (spliced [(false, _), (false, _)]) _ _ _
  refine Calls.spliced_cons (ld_local (v := .ref x) hnz (by first | rfl | with_unfolding_all rfl | kernel_rfl) (Calls.spliced_cons ?_))
  show wpAny _ _ (eval (.Constant (.str msgz) 0 q4z) _) _ _ _
  refine Calls.Constant_str (Calls.spliced_nil ?_)
  show wpAny _ _ (call (.builtin "Exception.__init__") [.ref x, .str msgz _]) _ _ _
  refine wpAny_call (HandSPX.init_base F.excBase_Exception hTz hCz hx1z (one_le _) fun h2z t1z k2z hx2z => ?_)
  have hn2z := hnz.at (h' := h2z) fun o q => k2z _ o hLz q
  have X2 : K.In h2z := kept_one X1 hnx k2z
  show wpAny _ _ (execs _ _) _ _ _
  refine wpAny_execs_cons (plainObj_wpAny_Assign_Attribute ?_ rfl)
  refine ld_local (v := v) hn2z (by first | rfl | with_unfolding_all rfl | kernel_rfl) (ld_local (v := .ref x) hn2z (by first | rfl | with_unfolding_all rfl | kernel_rfl) ?_)
  refine first_field T X2 hx2z fun h3z tk3z dx k3z dnz dne hx3z hn3z => ?_
  show wpAny _ _ (execs _ _) _ _ _
  refine wpAny_execs_nil (hq h3z tk3z dx t1z ⟨fun b o hbz e => k3z b o hbz (k2z b o hbz (k1z b o e)), hx3z, Nat.le_trans (Nat.le_of_lt hn2z.lt) dnz, dne, hn3z⟩)
/-- selfz.__init__(v): Exception.__init__(selfz, text); selfz.answer = v -/
theorem init_answer (T : EC K C "answer") (I : IT K fI "answer") {x t0 : Addr} {v : Value} (X : K.In s.heap) (G : GB s.heap mg) (hE : mg "Exception" = none)
    (vE : findCls K (.type "Exception") (.type "type") "__init__" = some (.val (.builtin "Exception.__init__")))
    (hlim : s.heap.NoLimit) (hx : s.heap.get? x = some (HandSPX.excO C t0)) (hnx : K.lookup x = none) (hroom : A.depth < recursionLimit)
    (hq : ∀ h' tk dx t1z, Done s.heap h' x C "answer" v dx t1z → R (.ok (.ret .none)) { s with heap := h', toks := tk }) :
    codeAny (model prog w) A (.call (.ref fI) ⟨[.ref x, v], []⟩) R s := by
  obtain ⟨ocz, od, docz, pmz, anz, cdvz, ctz, kVz, oslz, qualz, msgz, p1z, p2z, q1z, q2z, q3z, q4z, q5z, q6z, q7z, q8z, q9z, q10, hlz, hoz, hcdz⟩ := I.fn
  refine Att.call_fn (binds := [("self", .ref x), ("answer", v)]) X hlim hoz hcdz hroom (BindsTo.of_eq (by first | rfl | with_unfolding_all rfl)) (by first | rfl | decide | with_unfolding_all rfl) (fun s1z IC => ?_) rfl rfl rfl
  obtain ⟨h1z, tk1z, rfl⟩ := IC.toInCall.same
  have k1z : ∀ b o, s.heap.get? b = some o → h1z.get? b = some o := IC.toInCall.keep
  have hnz := IC.toInCall.ns
  have X1 : K.In h1z := X.keeps k1z
  have G1 : GB h1z mg := G.keeps k1z
  have hx1z := k1z _ _ hx
  obtain ⟨nmz, N, qnz, bsz, bmz, hdctz, snz, subz, abz, colz, ddz, z0z, z1z, z2z, z3z, z5z, hCz, hTz⟩ := excInit_of X1 T.xi
  have hszz : s.heap.objs.size < h1z.objs.size := hnz.lt
  have hLz : s.heap.objs.size ≠ x := Nat.ne_of_gt (Heap.lt_size hx)
  show wpAny _ _ (execs _ _) _ _ _
  refine wpAny_execs_cons (wpAny_Expr_any ?_)
  refine methodCall_KW (pl := do return (← importBound (.Name "Exception" q1z) (envOfC qualz (iS "answer") s.heap.objs.size fI cdvz)).getD true) (ld_builtin G1 hE PyProof.Rows.Boot.«Exception» ?_) (meth_line hlz rfl)
  refine method_type (F := (⟨hnz, k1z, Nat.le_refl _⟩ : Fr s.heap s.heap.objs.size h1z _)) X typ_Exc (by decide +kernel) vE (by decide +kernel) ?_
  show wpAny _ _ (callWith _ (Value.builtin "Exception.__init__") [] (backTo _ (starEach _ _)) []) _ _ _
  refine PyProof.Rows.callWith_method1 ?_ (by rfl) (by rfl)
  show wpAny _ _ (spliced [(false, _), (false, _)]) _ _ _
  refine Calls.spliced_cons (ld_local (v := .ref x) hnz (by first | rfl | with_unfolding_all rfl | kernel_rfl) (Calls.spliced_cons ?_))
  show wpAny _ _ (eval (.Constant (.str msgz) 0 q4z) _) _ _ _
  refine Calls.Constant_str (Calls.spliced_nil ?_)
  show wpAny _ _ (call (.builtin "Exception.__init__") [.ref x, .str msgz _]) _ _ _
  refine wpAny_call (HandSPX.init_base F.excBase_Exception hTz hCz hx1z (one_le _) fun h2z t1z k2z hx2z => ?_)
  have hn2z := hnz.at (h' := h2z) fun o q => k2z _ o hLz q
  have X2 : K.In h2z := kept_one X1 hnx k2z
  show wpAny _ _ (execs _ _) _ _ _
  refine wpAny_execs_cons (plainObj_wpAny_Assign_Attribute ?_ rfl)
  refine ld_local (v := v) hn2z (by first | rfl | with_unfolding_all rfl | kernel_rfl) (ld_local (v := .ref x) hn2z (by first | rfl | with_unfolding_all rfl | kernel_rfl) ?_)
  refine first_field T X2 hx2z fun h3z tk3z dx k3z dnz dne hx3z hn3z => ?_
  show wpAny _ _ (execs _ _) _ _ _
  refine wpAny_execs_nil (hq h3z tk3z dx t1z ⟨fun b o hbz e => k3z b o hbz (k2z b o hbz (k1z b o e)), hx3z, Nat.le_trans (Nat.le_of_lt hn2z.lt) dnz, dne, hn3z⟩)
/-- a made exception: its own dict d holds the field -/
structure Made (h h' : Heap) (e C : Addr) (f : Str) (d : Addr) (v : Value) : Prop where
  keep : ∀ b o, h.get? b = some o → h'.get? b = some o
  new : h.objs.size ≤ e
  obj : ∃ t1z : Addr, h'.get? e = some { cls := .ref C, dict := some d, data := .fields #[.ref t1z, .none, .none, .none, .bool false, .none] }
  dbig : h.objs.size ≤ d
  dne : d ≠ e
  ns : h'.Ns1 d (fun yz => if yz = f then some v else none)
theorem depth_under {A : Around} {C : Addr} {us : List Value} {n : Nat} (h : A.depth + (n + 1) < recursionLimit) : (A.under (.builtin "type.__call__" ⟨.ref C :: us, []⟩)).depth + n < recursionLimit := by
  show A.depth + 1 + n < recursionLimit
  omega
theorem no_new {h : Heap} {K : Frag} (X : K.In h) {x : Addr} (hx : h.objs.size ≤ x) : K.lookup x = none := by
  cases e : K.lookup x with
  | none => rfl
  | some o => exact absurd (Nat.lt_of_lt_of_le (Heap.lt_size (X _ _ e)) hx) (Nat.lt_irrefl _)
/-- C(v), C's own __init__ of the first kind -/
theorem made_place (T : EC K C "place") (I : IT K fI "place") (iC : findIn K (.ref C) "__init__" = some (some (.ref fI))) (tC : typeIn K (.ref fI) = some (.type "function")) {v : Value} (X : K.In s.heap) (G : GB s.heap mg) (hE : mg "Exception" = none)
    (vE : findCls K (.type "Exception") (.type "type") "__init__" = some (.val (.builtin "Exception.__init__"))) (hlim : s.heap.NoLimit) (hroom : A.depth + 1 < recursionLimit)
    (hq : ∀ h' tk e d, Made s.heap h' e C "place" d v → R (.ok (.ret (.ref e))) { s with heap := h', toks := tk }) :
    codeAny (model prog w) A (.call (.ref C) ⟨[v], []⟩) R s := by
  obtain ⟨nmz, N, qnz, bsz, bmz, hdctz, snz, subz, abz, colz, ddz, z0z, z1z, z2z, z3z, z5z, hCz, hTz⟩ := excInit_of X T.xi
  obtain ⟨hpz, gz, drz, tk, osz⟩ := s
  have k : ∀ b o, hpz.get? b = some o → ((hpz.push (kdv_tup [v])).push (HandSPX.excO C hpz.objs.size)).get? b = some o := fun b o e => Heap.get?_push_of_some _ (Heap.get?_push_of_some _ e)
  have hgetz : ((hpz.push (kdv_tup [v])).push (HandSPX.excO C hpz.objs.size)).get? (hpz.objs.size + 1) = some (HandSPX.excO C hpz.objs.size) := by heap_get
  refine HandSPX.call_own F.excBase_Exception hTz hCz (looks_findIn X iC) (fun selfz => bind_fn X selfz tC) (one_le v) ?_
  refine init_place (s := ⟨(hpz.push (kdv_tup [v])).push (HandSPX.excO C hpz.objs.size), gz, drz, tk, osz⟩) T I (X.keeps k) (G.keeps k) hE vE (hlim.keeps k) hgetz (no_new X (Nat.le_succ _)) (depth_under (n := 0) hroom) fun h' tkz' dx t1z D => ?_
  have oldz : ∀ b o, hpz.get? b = some o → h'.get? b = some o := fun b o e => D.keep b o (Nat.ne_of_lt (Nat.lt_succ_of_lt (Heap.lt_size e))) (k b o e)
  have zz : hpz.objs.size + 1 + 1 ≤ dx := by
    have q := D.dbig
    rw [show ((hpz.push (kdv_tup [v])).push (HandSPX.excO C hpz.objs.size)).objs.size = hpz.objs.size + 1 + 1 by rw [Heap.size_push, Heap.size_push]] at q
    exact q
  exact ⟨rfl, hq h' tkz' (hpz.objs.size + 1) dx ⟨oldz, Nat.le_succ _, ⟨t1z, D.obj⟩, Nat.le_trans (Nat.le_trans (Nat.le_succ _) (Nat.le_succ _)) zz, D.dne, D.ns⟩⟩
end
end Ego
end PySem
namespace PySem
namespace Ego
open PySem.HandSPX PySem.W PySem.Calls PyProof.Rows
/-- the class Refusal, whose __init__ is of the first kind -/
structure RT (K : Frag) (mg : Str → Option Value) (CR fR : Addr) : Prop where
  gR : mg "Refusal" = some (.ref CR)
  sg : specialIn K (.ref CR) "__getattribute__" = some (some (.builtin "type.__getattribute__"))
  rd : readsIn K CR (.type "type") = true
  fd : findCls K (.ref CR) (.type "type") "__init__" = some (.val (.ref fR))
  kp : keepIn K (.ref fR) = true
  it : IT K fR "answer"
/-- __init__(selfz, ..): Refusal.__init__(selfz, [..]) -/
def bB (es : List Expr) (q1z q2z q3z q4z q5z q6z : Pos) : List Stmt := [.Expr (.Call (.Attribute (.Name "Refusal" q1z) "__init__" q2z) [.Name "self" q3z, .List es q4z] [] q5z) q6z]
/-- what it leaves: the field holds a new list, L, of the values us -/
structure Done2 (h h' : Heap) (x C : Addr) (L : Addr) (us : List Value) (dx t1z : Addr) : Prop where
  keep : ∀ b o, b ≠ x → h.get? b = some o → h'.get? b = some o
  obj : h'.get? x = some { cls := .ref C, dict := some dx, data := .fields #[.ref t1z, .none, .none, .none, .bool false, .none] }
  dbig : h.objs.size ≤ dx
  dne : dx ≠ x
  ns : h'.Ns1 dx (fun yz => if yz = "answer" then some (.ref L) else none)
  lbig : h.objs.size ≤ L
  lne : L ≠ x
  ldx : L ≠ dx
  lst : h'.get? L = some { cls := .type "list", data := .seq us.toArray }
structure Made2 (h h' : Heap) (e C : Addr) (L d : Addr) (us : List Value) : Prop where
  keep : ∀ b o, h.get? b = some o → h'.get? b = some o
  new : h.objs.size ≤ e
  obj : ∃ t1z : Addr, h'.get? e = some { cls := .ref C, dict := some d, data := .fields #[.ref t1z, .none, .none, .none, .bool false, .none] }
  dbig : h.objs.size ≤ d
  dne : d ≠ e
  ns : h'.Ns1 d (fun yz => if yz = "answer" then some (.ref L) else none)
  lbig : h.objs.size ≤ L
  lne : L ≠ e
  ldx : L ≠ d
  lst : h'.get? L = some { cls := .type "list", data := .seq us.toArray }
def sNeg (n : Int) (p1z p2z : Pos) : Expr := .UnaryOp .USub (.Constant (.int n) 0 p1z) p2z
section
variable {prog : Program} {w : World} {A : Around} {E : Value → Shared → Prop} {R : Result → Shared → Prop} {s : Shared} {K : Frag} {mg : Str → Option Value} {C CR fR fI : Addr}
def wiA (p0z p1z p2z : Pos) : Arguments := { posonlyargs := [], args := [{ arg := "self", annotation := none, pos := p0z }, { arg := "kind", annotation := none, pos := p1z }, { arg := "place", annotation := none, pos := p2z }], vararg := none, kwonlyargs := [], kw_defaults := [], kwarg := none, defaults := [] }
def wiS : Scope := { kind := .function, names := [(PySem.Str.ofString "self", .local), (PySem.Str.ofString "kind", .local), (PySem.Str.ofString "place", .local), (PySem.Str.ofString "Refusal", .globalImplicit)], isGenerator := false, isCoroutine := false, more := [] }
structure wIT (K : Frag) (fI : Addr) : Prop where
  fn : ∃ (ocz : Value) (od : Option Addr) (docz pmz : Value) (anz : Option Addr) (cdvz ctz kVz : Value) (oslz : Array (Option Value)) (qualz : Str) (p0z p1z p2z r1z r2z r3z r4z q1z q2z q3z q4z q5z q6z : Pos), (q2z.endLine == q5z.line) = true ∧
    K.lookup fI = some ⟨ocz, od, .func (fnOf "__init__" qualz (wiA p0z p1z p2z) (bB [sNeg 5 r1z r2z, .Name "kind" r3z, .Name "place" r4z] q1z q2z q3z q4z q5z q6z) wiS .none kVz docz pmz anz cdvz ctz), oslz⟩ ∧ codeIn K cdvz qualz = true
theorem winit (T : EC K C "answer") (RR : RT K mg CR fR) (I : wIT K fI) {x t0 : Addr} {v1 v2 : Value} (X : K.In s.heap) (G : GB s.heap mg) (hE : mg "Exception" = none)
    (vE : findCls K (.type "Exception") (.type "type") "__init__" = some (.val (.builtin "Exception.__init__")))
    (hlim : s.heap.NoLimit) (hx : s.heap.get? x = some (HandSPX.excO C t0)) (hnx : K.lookup x = none) (hroom : A.depth + 1 < recursionLimit)
    (hq : ∀ h' tk dx t1z L tnz, Done2 s.heap h' x C L [.int (-5) tnz, v1, v2] dx t1z → R (.ok (.ret .none)) { s with heap := h', toks := tk }) :
    codeAny (model prog w) A (.call (.ref fI) ⟨[.ref x, v1, v2], []⟩) R s := by
  obtain ⟨ocz, od, docz, pmz, anz, cdvz, ctz, kVz, oslz, qualz, p0z, p1z, p2z, r1z, r2z, r3z, r4z, q1z, q2z, q3z, q4z, q5z, q6z, hlz, hoz, hcdz⟩ := I.fn
  refine Att.call_fn (binds := [("self", .ref x), ("kind", v1), ("place", v2)]) X hlim hoz hcdz (Nat.lt_of_succ_lt hroom) (BindsTo.of_eq (by first | rfl | with_unfolding_all rfl)) (by first | rfl | decide | with_unfolding_all rfl) (fun s1z IC => ?_) rfl rfl rfl
  obtain ⟨h1z, tk1z, rfl⟩ := IC.toInCall.same
  have k1z : ∀ b o, s.heap.get? b = some o → h1z.get? b = some o := IC.toInCall.keep
  have hnz := IC.toInCall.ns
  have X1 : K.In h1z := X.keeps k1z
  have G1 : GB h1z mg := G.keeps k1z
  have hx1z := k1z _ _ hx
  have hszz : s.heap.objs.size < h1z.objs.size := hnz.lt
  have hLz : s.heap.objs.size ≠ x := Nat.ne_of_gt (Heap.lt_size hx)
  show wpAny _ _ (execs _ _) _ _ _
  refine wpAny_execs_cons (wpAny_Expr_any ?_)
  refine methodCall_KW (pl := do return (← importBound (.Name "Refusal" q1z) (envOfC qualz wiS s.heap.objs.size fI cdvz)).getD true) (ld_global G1 RR.gR ?_) (meth_line hlz rfl)
  refine method_cls X1 RR.sg (cls_value X1 RR.rd RR.fd rfl ?_)
  show wpAny _ _ (callWith _ (Value.ref fR) [] (backTo _ (starEach _ _)) []) _ _ _
  refine callWith_K (h₀ := h1z) X1 RR.kp ?_ (by rfl) (by rfl)
  show wpAny _ _ (spliced [(false, _), (false, _)]) _ _ _
  refine Calls.spliced_cons (ld_local (v := .ref x) hnz (by first | rfl | with_unfolding_all rfl | kernel_rfl) (Calls.spliced_cons ?_))
  show wpAny _ _ (eval (.List [sNeg 5 r1z r2z, .Name "kind" r3z, .Name "place" r4z] q4z) _) _ _ _
  refine wpAny_List ?_
  show wpAny _ _ (spliced [(false, _), (false, _), (false, _)]) _ _ _
  refine Calls.spliced_cons ?_
  show wpAny _ _ (eval (.UnaryOp .USub (.Constant (.int 5) 0 r1z) r2z) _) _ _ _
  refine UnaryOp_ (wpAny_Constant_int (neg_int ?_))
  refine Calls.spliced_cons (ld_local (v := v1) hnz (by first | rfl | with_unfolding_all rfl | kernel_rfl) ?_)
  refine Calls.spliced_cons (ld_local (v := v2) hnz (by first | rfl | with_unfolding_all rfl | kernel_rfl) ?_)
  refine Calls.spliced_nil ⟨(by rw [sizeLine_eq]; exact (by decide : 3 ≤ 16777216)), Calls.spliced_nil ⟨X1.keeps fun b o e => Heap.get?_push_of_some _ e, ?_⟩⟩
  have kPz : ∀ b o, h1z.get? b = some o → (h1z.push { cls := .type "list", data := .seq ([.int (-5) (tk1z + 1 + 1), v1, v2]).toArray }).get? b = some o := fun b o e => Heap.get?_push_of_some _ e
  show wpAny _ _ (call (.ref fR) [.ref x, .ref h1z.objs.size]) _ _ _
  refine wpAny_call (init_answer (s := ⟨h1z.push { cls := .type "list", data := .seq ([.int (-5) (tk1z + 1 + 1), v1, v2]).toArray }, s.gens, s.drawn, _, s.os⟩) T RR.it (X1.keeps kPz) (G1.keeps kPz) hE vE ((hlim.keeps k1z).keeps kPz) (kPz _ _ hx1z) hnx ?_ fun h2z tk2z dx t1z D => ?_)
  · show A.depth + 1 < recursionLimit
    exact hroom
  have lxz : h1z.objs.size ≠ x := Nat.ne_of_gt (Heap.lt_size hx1z)
  have hpz : (h1z.push { cls := .type "list", data := .seq ([.int (-5) (tk1z + 1 + 1), v1, v2]).toArray }).get? h1z.objs.size = some { cls := .type "list", data := .seq ([.int (-5) (tk1z + 1 + 1), v1, v2]).toArray } := Heap.get?_push_size _ rfl
  have hdz := D.dbig
  rw [show (⟨h1z.push { cls := .type "list", data := .seq ([.int (-5) (tk1z + 1 + 1), v1, v2]).toArray }, s.gens, s.drawn, _, s.os⟩ : Shared).heap.objs.size = h1z.objs.size + 1 from Heap.size_push _ _] at hdz
  show wpAny _ _ (execs _ _) _ _ _
  refine wpAny_execs_nil (hq h2z tk2z dx t1z h1z.objs.size _ ⟨fun b o hbz e => D.keep b o hbz (kPz b o (k1z b o e)), D.obj, Nat.le_trans (Nat.le_of_lt hszz) (Nat.le_trans (Nat.le_succ _) hdz), D.dne, D.ns, Nat.le_of_lt hszz, lxz, Nat.ne_of_lt hdz, D.keep _ _ lxz hpz⟩)
theorem wmade (T : EC K C "answer") (RR : RT K mg CR fR) (I : wIT K fI) (iC : findIn K (.ref C) "__init__" = some (some (.ref fI))) (tC : typeIn K (.ref fI) = some (.type "function")) {v1 v2 : Value} (X : K.In s.heap) (G : GB s.heap mg) (hE : mg "Exception" = none)
    (vE : findCls K (.type "Exception") (.type "type") "__init__" = some (.val (.builtin "Exception.__init__"))) (hlim : s.heap.NoLimit) (hroom : A.depth + 2 < recursionLimit)
    (hq : ∀ h' tk e L d tnz, Made2 s.heap h' e C L d [.int (-5) tnz, v1, v2] → R (.ok (.ret (.ref e))) { s with heap := h', toks := tk }) :
    codeAny (model prog w) A (.call (.ref C) ⟨[v1, v2], []⟩) R s := by
  obtain ⟨nmz, N, qnz, bsz, bmz, hdctz, snz, subz, abz, colz, ddz, z0z, z1z, z2z, z3z, z5z, hCz, hTz⟩ := excInit_of X T.xi
  obtain ⟨hpz, gz, drz, tk, osz⟩ := s
  have k : ∀ b o, hpz.get? b = some o → ((hpz.push (kdv_tup [v1, v2])).push (HandSPX.excO C hpz.objs.size)).get? b = some o := fun b o e => Heap.get?_push_of_some _ (Heap.get?_push_of_some _ e)
  have hgetz : ((hpz.push (kdv_tup [v1, v2])).push (HandSPX.excO C hpz.objs.size)).get? (hpz.objs.size + 1) = some (HandSPX.excO C hpz.objs.size) := by heap_get
  have hszz : ((hpz.push (kdv_tup [v1, v2])).push (HandSPX.excO C hpz.objs.size)).objs.size = hpz.objs.size + 1 + 1 := by rw [Heap.size_push, Heap.size_push]
  refine HandSPX.call_own F.excBase_Exception hTz hCz (looks_findIn X iC) (fun selfz => bind_fn X selfz tC) (by rw [sizeLine_eq]; exact (by decide : 2 ≤ 16777216)) ?_
  refine winit (s := ⟨(hpz.push (kdv_tup [v1, v2])).push (HandSPX.excO C hpz.objs.size), gz, drz, tk, osz⟩) T RR I (X.keeps k) (G.keeps k) hE vE (hlim.keeps k) hgetz (no_new X (Nat.le_succ _)) (depth_under (n := 1) hroom) fun h' tkz' dx t1z L tnz D => ?_
  have oldz : ∀ b o, hpz.get? b = some o → h'.get? b = some o := fun b o e => D.keep b o (Nat.ne_of_lt (Nat.lt_succ_of_lt (Heap.lt_size e))) (k b o e)
  have z1z := D.dbig
  have z2z := D.lbig
  rw [hszz] at z1z z2z
  exact ⟨rfl, hq h' tkz' (hpz.objs.size + 1) L dx tnz ⟨oldz, Nat.le_succ _, ⟨t1z, D.obj⟩, by show hpz.objs.size ≤ _; omega, D.dne, D.ns, by show hpz.objs.size ≤ _; omega, D.lne, D.ldx, D.lst⟩⟩
def niA (p0z : Pos) : Arguments := { posonlyargs := [], args := [{ arg := "self", annotation := none, pos := p0z }], vararg := none, kwonlyargs := [], kw_defaults := [], kwarg := none, defaults := [] }
def niS : Scope := { kind := .function, names := [(PySem.Str.ofString "self", .local), (PySem.Str.ofString "Refusal", .globalImplicit)], isGenerator := false, isCoroutine := false, more := [] }
structure nIT (K : Frag) (fI : Addr) (n : Int) : Prop where
  fn : ∃ (ocz : Value) (od : Option Addr) (docz pmz : Value) (anz : Option Addr) (cdvz ctz kVz : Value) (oslz : Array (Option Value)) (qualz : Str) (p0z  r1z r2z r3z r4z q1z q2z q3z q4z q5z q6z : Pos), (q2z.endLine == q5z.line) = true ∧
    K.lookup fI = some ⟨ocz, od, .func (fnOf "__init__" qualz (niA p0z ) (bB [sNeg n r1z r2z] q1z q2z q3z q4z q5z q6z) niS .none kVz docz pmz anz cdvz ctz), oslz⟩ ∧ codeIn K cdvz qualz = true
theorem ninit (T : EC K C "answer") (RR : RT K mg CR fR) (I : nIT K fI n) {x t0 : Addr}  (X : K.In s.heap) (G : GB s.heap mg) (hE : mg "Exception" = none)
    (vE : findCls K (.type "Exception") (.type "type") "__init__" = some (.val (.builtin "Exception.__init__")))
    (hlim : s.heap.NoLimit) (hx : s.heap.get? x = some (HandSPX.excO C t0)) (hnx : K.lookup x = none) (hroom : A.depth + 1 < recursionLimit)
    (hq : ∀ h' tk dx t1z L tnz, Done2 s.heap h' x C L [.int (-n) tnz] dx t1z → R (.ok (.ret .none)) { s with heap := h', toks := tk }) :
    codeAny (model prog w) A (.call (.ref fI) ⟨[.ref x], []⟩) R s := by
  obtain ⟨ocz, od, docz, pmz, anz, cdvz, ctz, kVz, oslz, qualz, p0z, r1z, r2z, r3z, r4z, q1z, q2z, q3z, q4z, q5z, q6z, hlz, hoz, hcdz⟩ := I.fn
  refine Att.call_fn (binds := [("self", .ref x)]) X hlim hoz hcdz (Nat.lt_of_succ_lt hroom) (BindsTo.of_eq (by first | rfl | with_unfolding_all rfl)) (by first | rfl | decide | with_unfolding_all rfl) (fun s1z IC => ?_) rfl rfl rfl
  obtain ⟨h1z, tk1z, rfl⟩ := IC.toInCall.same
  have k1z : ∀ b o, s.heap.get? b = some o → h1z.get? b = some o := IC.toInCall.keep
  have hnz := IC.toInCall.ns
  have X1 : K.In h1z := X.keeps k1z
  have G1 : GB h1z mg := G.keeps k1z
  have hx1z := k1z _ _ hx
  have hszz : s.heap.objs.size < h1z.objs.size := hnz.lt
  have hLz : s.heap.objs.size ≠ x := Nat.ne_of_gt (Heap.lt_size hx)
  show wpAny _ _ (execs _ _) _ _ _
  refine wpAny_execs_cons (wpAny_Expr_any ?_)
  refine methodCall_KW (pl := do return (← importBound (.Name "Refusal" q1z) (envOfC qualz niS s.heap.objs.size fI cdvz)).getD true) (ld_global G1 RR.gR ?_) (meth_line hlz rfl)
  refine method_cls X1 RR.sg (cls_value X1 RR.rd RR.fd rfl ?_)
  show wpAny _ _ (callWith _ (Value.ref fR) [] (backTo _ (starEach _ _)) []) _ _ _
  refine callWith_K (h₀ := h1z) X1 RR.kp ?_ (by rfl) (by rfl)
  show wpAny _ _ (spliced [(false, _), (false, _)]) _ _ _
  refine Calls.spliced_cons (ld_local (v := .ref x) hnz (by first | rfl | with_unfolding_all rfl | kernel_rfl) (Calls.spliced_cons ?_))
  show wpAny _ _ (eval (.List [sNeg n r1z r2z] q4z) _) _ _ _
  refine wpAny_List ?_
  show wpAny _ _ (spliced [(false, _)]) _ _ _
  refine Calls.spliced_cons ?_
  show wpAny _ _ (eval (.UnaryOp .USub (.Constant (.int n) 0 r1z) r2z) _) _ _ _
  refine UnaryOp_ (wpAny_Constant_int (neg_int ?_))
  refine Calls.spliced_nil ⟨(by rw [sizeLine_eq]; exact (by decide : 1 ≤ 16777216)), Calls.spliced_nil ⟨X1.keeps fun b o e => Heap.get?_push_of_some _ e, ?_⟩⟩
  have kPz : ∀ b o, h1z.get? b = some o → (h1z.push { cls := .type "list", data := .seq ([.int (-n) (tk1z + 1 + 1)]).toArray }).get? b = some o := fun b o e => Heap.get?_push_of_some _ e
  show wpAny _ _ (call (.ref fR) [.ref x, .ref h1z.objs.size]) _ _ _
  refine wpAny_call (init_answer (s := ⟨h1z.push { cls := .type "list", data := .seq ([.int (-n) (tk1z + 1 + 1)]).toArray }, s.gens, s.drawn, _, s.os⟩) T RR.it (X1.keeps kPz) (G1.keeps kPz) hE vE ((hlim.keeps k1z).keeps kPz) (kPz _ _ hx1z) hnx ?_ fun h2z tk2z dx t1z D => ?_)
  · show A.depth + 1 < recursionLimit
    exact hroom
  have lxz : h1z.objs.size ≠ x := Nat.ne_of_gt (Heap.lt_size hx1z)
  have hpz : (h1z.push { cls := .type "list", data := .seq ([.int (-n) (tk1z + 1 + 1)]).toArray }).get? h1z.objs.size = some { cls := .type "list", data := .seq ([.int (-n) (tk1z + 1 + 1)]).toArray } := Heap.get?_push_size _ rfl
  have hdz := D.dbig
  rw [show (⟨h1z.push { cls := .type "list", data := .seq ([.int (-n) (tk1z + 1 + 1)]).toArray }, s.gens, s.drawn, _, s.os⟩ : Shared).heap.objs.size = h1z.objs.size + 1 from Heap.size_push _ _] at hdz
  show wpAny _ _ (execs _ _) _ _ _
  refine wpAny_execs_nil (hq h2z tk2z dx t1z h1z.objs.size _ ⟨fun b o hbz e => D.keep b o hbz (kPz b o (k1z b o e)), D.obj, Nat.le_trans (Nat.le_of_lt hszz) (Nat.le_trans (Nat.le_succ _) hdz), D.dne, D.ns, Nat.le_of_lt hszz, lxz, Nat.ne_of_lt hdz, D.keep _ _ lxz hpz⟩)
theorem nmade (T : EC K C "answer") (RR : RT K mg CR fR) (I : nIT K fI n) (iC : findIn K (.ref C) "__init__" = some (some (.ref fI))) (tC : typeIn K (.ref fI) = some (.type "function"))  (X : K.In s.heap) (G : GB s.heap mg) (hE : mg "Exception" = none)
    (vE : findCls K (.type "Exception") (.type "type") "__init__" = some (.val (.builtin "Exception.__init__"))) (hlim : s.heap.NoLimit) (hroom : A.depth + 2 < recursionLimit)
    (hq : ∀ h' tk e L d tnz, Made2 s.heap h' e C L d [.int (-n) tnz] → R (.ok (.ret (.ref e))) { s with heap := h', toks := tk }) : codeAny (model prog w) A (.call (.ref C) ⟨[], []⟩) R s := by
  obtain ⟨nmz, N, qnz, bsz, bmz, hdctz, snz, subz, abz, colz, ddz, z0z, z1z, z2z, z3z, z5z, hCz, hTz⟩ := excInit_of X T.xi
  obtain ⟨hpz, gz, drz, tk, osz⟩ := s
  have k : ∀ b o, hpz.get? b = some o → ((hpz.push (kdv_tup [])).push (HandSPX.excO C hpz.objs.size)).get? b = some o := fun b o e => Heap.get?_push_of_some _ (Heap.get?_push_of_some _ e)
  have hgetz : ((hpz.push (kdv_tup [])).push (HandSPX.excO C hpz.objs.size)).get? (hpz.objs.size + 1) = some (HandSPX.excO C hpz.objs.size) := by heap_get
  have hszz : ((hpz.push (kdv_tup [])).push (HandSPX.excO C hpz.objs.size)).objs.size = hpz.objs.size + 1 + 1 := by rw [Heap.size_push, Heap.size_push]
  refine HandSPX.call_own F.excBase_Exception hTz hCz (looks_findIn X iC) (fun selfz => bind_fn X selfz tC) (by rw [sizeLine_eq]; exact (by decide : 0 ≤ 16777216)) ?_
  refine ninit (s := ⟨(hpz.push (kdv_tup [])).push (HandSPX.excO C hpz.objs.size), gz, drz, tk, osz⟩) T RR I (X.keeps k) (G.keeps k) hE vE (hlim.keeps k) hgetz (no_new X (Nat.le_succ _)) (depth_under (n := 1) hroom) fun h' tkz' dx t1z L tnz D => ?_
  have oldz : ∀ b o, hpz.get? b = some o → h'.get? b = some o := fun b o e => D.keep b o (Nat.ne_of_lt (Nat.lt_succ_of_lt (Heap.lt_size e))) (k b o e)
  have z1z := D.dbig
  have z2z := D.lbig
  rw [hszz] at z1z z2z
  exact ⟨rfl, hq h' tkz' (hpz.objs.size + 1) L dx tnz ⟨oldz, Nat.le_succ _, ⟨t1z, D.obj⟩, by show hpz.objs.size ≤ _; omega, D.dne, D.ns, by show hpz.objs.size ≤ _; omega, D.lne, D.ldx, D.lst⟩⟩
end
end Ego
end PySem
namespace L2
open PySem PySem.Spec PyProof.Rows PySem.Ego
section
variable {X : Cx} {pinsz : List (Addr × Obj)} {σ : St} {H H' : Hp} {s : Shared} {h' : Heap}
/-- two new objects are laid and tracked -/
theorem Inv.laid2 {t' : Nat} {a b : Addr} {o u : HO} (I : Inv X pinsz σ H s) (k : ∀ c v, s.heap.get? c = some v → h'.get? c = some v) (ha : s.heap.objs.size ≤ a) (hbz : s.heap.objs.size ≤ b) (hab : a ≠ b)
    (na : ObjOk X.prog X.w (upd (upd H a o) b u) h' a o) (nb : ObjOk X.prog X.w (upd (upd H a o) b u) h' b u) : Inv X pinsz σ (upd (upd H a o) b u) { s with heap := h', toks := t' } := by
  have faz := I.hok.fresh ha
  have fbz := I.hok.fresh hbz
  have oldz : ∀ {c : Addr} {v : HO}, H c = some v → upd (upd H a o) b u c = some v := fun {c v} q => by
    rw [upd_ne (ne_of_none q fbz), upd_ne (ne_of_none q faz)]
    exact q
  have nonz : ∀ {c : Addr} {v : Obj}, s.heap.get? c = some v → H c = none → upd (upd H a o) b u c = none := fun {c v} q n => by
    have hcz := Heap.lt_size q
    rw [upd_ne (Nat.ne_of_lt (Nat.lt_of_lt_of_le hcz hbz)), upd_ne (Nat.ne_of_lt (Nat.lt_of_lt_of_le hcz ha))]
    exact n
  refine I.un (t' := t') ⟨fun c v q _ _ _ => k c v q, fun c v q _ _ _ => ⟨v.slots, k c v q⟩, fun c v q n _ => nonz q n, fun c v q _ => ⟨v, k c v q⟩, fun c xs q => oldz q, fun c v w q => oldz q, fun c ps q => ⟨#[], by rw [oldz q]; simp⟩⟩ fun c v q => ?_
  by_cases hcb : c = b
  · subst hcb
    rw [upd_same] at q
    cases q
    exact nb
  · by_cases hca : c = a
    · subst hca
      rw [upd_ne hcb, upd_same] at q
      cases q
      exact na
    · rw [upd_ne hcb, upd_ne hca] at q
      exact (I.hok c v q).stay (fun d w _ zz => k d w zz) (fun d zz => oldz zz) fun d xs zz => oldz zz
theorem gb_of (I : Inv X pinsz σ H s) : GB s.heap X.mg := ⟨I.ok.mod.glob.keeps I.bk, let ⟨mb, h1, h2⟩ := I.ok.mod.blt; ⟨mb, h1.keeps I.bk, h2⟩⟩
theorem relO_one {f gz : Str} {v : V} {u : Value} (r : RelV v u) : RelO (List.lookup gz [(f, v)]) (if gz = f then some u else none) := by
  by_cases hz : gz = f
  · subst hz
    rw [if_pos rfl]
    have q : List.lookup gz [(gz, v)] = some v := by simp [List.lookup]
    rw [q]
    exact r
  · rw [if_neg hz]
    have e : (gz == f) = false := by simpa using hz
    have q : List.lookup gz [(f, v)] = none := by simp [List.lookup, e]
    rw [q]
    trivial
/-- the facts that every making of such an exception leans on -/
structure ExB (K : PySem.W.Frag) (mg : Str → Option Value) : Prop where
  nE : mg "Exception" = none
  vE : PySem.W.findCls K (.type "Exception") (.type "type") "__init__" = some (.val (.builtin "Exception.__init__"))
/-- an own exception class at C, its __init__ at fI -/
structure ExC (K : PySem.W.Frag) (mg : Str → Option Value) (x : Str) (C fI : Addr) (f : Str) : Prop where
  ec : EC K C f
  iC : PySem.W.findIn K (.ref C) "__init__" = some (some (.ref fI))
  tC : PySem.W.typeIn K (.ref fI) = some (.type "function")
  (kC : PySem.W.keepIn K (.ref C) = true)
  (exC : PySem.W.subIn K (.ref C) (.type "BaseException") = some true)
  (tyC : PySem.W.typeIn K (.ref C) = some (.type "type"))
  gC : mg x = some (.ref C)
/-- what stands behind C(v): the exception at e is let go, its dict at d is tracked -/
theorem made_of {R : Heap → Prop} {hpz h2 : Heap} {gz : Array GenState} {drz : Drawn} {tk tkz' : Nat} {osz : OsState} {e C d : Addr} {f : Str} {v : V} {u : Value} {Q : XK} (I : Inv X pinsz σ H ⟨hpz, gz, drz, tk, osz⟩) (M : Made hpz h2 e C f d u) (r : RelV v u)
    (ra : Raises X (.ref C)) (q : ∀ d, H d = none → Q (.ref C) (some d) (upd H d (.xd [(f, v)]))) : L2N.MkP X pinsz σ Q (.ref e) ⟨h2, gz, drz, tkz', osz⟩ ∧ L2H.Six (.ref e) ⟨h2, gz, drz, tkz', osz⟩ := by
  obtain ⟨t1z, hoez⟩ := M.obj
  obtain ⟨G, g1z, g2z⟩ := restrict h2 fun b => decide (b ≠ e)
  have gkz : ∀ b, b ≠ e → G.get? b = h2.get? b := fun b hbz => g1z b (decide_eq_true hbz)
  have gez : G.get? e = none := g2z e (by simp)
  have oldz : ∀ b o, hpz.get? b = some o → G.get? b = some o := fun b o zz => (gkz b (Nat.ne_of_lt (Nat.lt_of_lt_of_le (Heap.lt_size zz) M.new))).trans (M.keep b o zz)
  have fdz : H d = none := I.hok.fresh M.dbig
  have fez : H e = none := I.hok.fresh M.new
  have J : Inv X pinsz σ (upd H d (.xd [(f, v)])) ⟨G, gz, drz, tkz', osz⟩ := I.laid (t' := tkz') oldz M.dbig ⟨_, M.ns.at (fun o zz => (gkz d M.dne).trans zz), fun yz => relO_one r⟩
  refine ⟨⟨e, _, _, ⟨G, gz, drz, tkz', osz⟩, _, .ref C, some d, rfl, J, fun b o zz => ?_, gez, hoez, ⟨rfl, rfl, fun vs zz => by cases zz; rfl⟩, rfl, rfl, ?_, rfl, I.bare, ra, q d fdz⟩, fun a oez vs eaz hgz hdz => ?_⟩
  · by_cases hbz : b = e
    · have zz' : G.get? b = some o := zz
      rw [hbz, gez] at zz'; cases zz'
    · exact (gkz b hbz).symm.trans zz
  · rw [upd_ne (Ne.symm M.dne)]
    exact fez
  · cases eaz
    have zz : h2.get? e = some oez := hgz
    rw [hoez] at zz
    cases zz
    cases hdz
    show (4 : Nat) < 6
    decide
theorem made2_of {hpz h2 : Heap} {gz : Array GenState} {drz : Drawn} {tk tkz' : Nat} {osz : OsState} {e C L d : Addr} {vs : List V} {us : List Value} {Q : XK} (I : Inv X pinsz σ H ⟨hpz, gz, drz, tk, osz⟩) (M : Made2 hpz h2 e C L d us) (r : Vals vs us) (hz : vs.length ≤ 1000)
    (ra : Raises X (.ref C)) (q : ∀ L d, H L = none → H d = none → L ≠ d → Q (.ref C) (some d) (upd (upd H L (.lst vs)) d (.xd [("answer", .ref L)]))) : L2N.MkP X pinsz σ Q (.ref e) ⟨h2, gz, drz, tkz', osz⟩ ∧ L2H.Six (.ref e) ⟨h2, gz, drz, tkz', osz⟩ := by
  obtain ⟨t1z, hoez⟩ := M.obj
  obtain ⟨G, g1z, g2z⟩ := restrict h2 fun b => decide (b ≠ e)
  have gkz : ∀ b, b ≠ e → G.get? b = h2.get? b := fun b hbz => g1z b (decide_eq_true hbz)
  have gez : G.get? e = none := g2z e (by simp)
  have oldz : ∀ b o, hpz.get? b = some o → G.get? b = some o := fun b o zz => (gkz b (Nat.ne_of_lt (Nat.lt_of_lt_of_le (Heap.lt_size zz) M.new))).trans (M.keep b o zz)
  have fdz : H d = none := I.hok.fresh M.dbig
  have fLz : H L = none := I.hok.fresh M.lbig
  have fez : H e = none := I.hok.fresh M.new
  have J : Inv X pinsz σ (upd (upd H L (.lst vs)) d (.xd [("answer", .ref L)])) ⟨G, gz, drz, tkz', osz⟩ := I.laid2 (t' := tkz') oldz M.lbig M.dbig M.ldx
    ⟨Nat.le_trans hz (by decide), us, _, r, (gkz L M.lne).trans M.lst⟩ ⟨_, M.ns.at (fun o zz => (gkz d M.dne).trans zz), fun yz => relO_one (v := .ref L) (u := .ref L) rfl⟩
  refine ⟨⟨e, _, _, ⟨G, gz, drz, tkz', osz⟩, _, .ref C, some d, rfl, J, fun b o zz => ?_, gez, hoez, ⟨rfl, rfl, fun vs zz => by cases zz; rfl⟩, rfl, rfl, ?_, rfl, I.bare, ra, q L d fLz fdz M.ldx⟩, fun a oez vs eaz hgz hdz => ?_⟩
  · by_cases hbz : b = e
    · have zz' : G.get? b = some o := zz
      rw [hbz, gez] at zz'; cases zz'
    · exact (gkz b hbz).symm.trans zz
  · rw [upd_ne (Ne.symm M.dne), upd_ne (Ne.symm M.lne)]
    exact fez
  · cases eaz
    have zz : h2.get? e = some oez := hgz
    rw [hoez] at zz
    cases zz
    cases hdz
    show (4 : Nat) < 6
    decide
end
/-! ### the rules -/
/-- Stuck(e) -/
def tMkS (C : Addr) (f : Str) (ta : TA) : St → Hp → XK → Prop := fun σ H Q => ta σ H fun vs H1 => ∃ v, vs = [v] ∧ ∀ d, H1 d = none → Q (.ref C) (some d) (upd H1 d (.xd [(f, v)]))
/-- WrongText(k, p): the field holds a new list -/
def tMkW (C : Addr) (ta : TA) : St → Hp → XK → Prop := fun σ H Q => ta σ H fun vs H1 => ∃ v1z v2z, vs = [v1z, v2z] ∧ ∀ L d, H1 L = none → H1 d = none → L ≠ d → Q (.ref C) (some d) (upd (upd H1 L (.lst [.int (-5), v1z, v2z])) d (.xd [("answer", .ref L)]))
/-- TooMuch() -/
def tMkN (C : Addr) (n : Int) : St → Hp → XK → Prop := fun _ H1 Q => ∀ L d, H1 L = none → H1 d = none → L ≠ d → Q (.ref C) (some d) (upd (upd H1 L (.lst [.int (-n)])) d (.xd [("answer", .ref L)]))
section
variable {X : Cx} {C CR fR fI : Addr} {x : Str}
theorem pmk_stuck {a : Expr} {ta : TA} {p pos : Pos} (B : ExB X.K X.mg) (T : ExC X.K X.mg x C fI "place") (it : IT X.K fI "place") (dp : X.A.depth + 10 < recursionLimit) (ha : PA X [a] ta) (hgz : Gl X x := by rfl) (hdb : (x == ("__debug__" : Str)) = false := by decide)
    (he : starEach (a :: []) X.env = (false, eval a X.env) :: starEach [] X.env := by rfl) (hpl : (backTo pos (starEach [] X.env)).any (·.1) = false := by rfl) :
    L2H.PMk5 X (.Call (.Name x p) [a] [] pos) (tMkS C "place" ta) := by
  intro pinsz s σ H Q I hz
  refine wpAny_Call_Name_kw (ld_glob I hgz T.gC ?_ hdb)
  refine PySem.W.callWith_K (h₀ := X.base) I.ok.mod.kin T.kC (thn (ha.run pos pinsz s σ H _ I hz) fun us s1z hhz => ?_) he hpl
  obtain ⟨vs, H1, I1, r1z, v, evz, q1z⟩ := hhz
  subst evz
  obtain ⟨u, rfl, ruz⟩ := vals1 r1z
  refine ⟨I1.kIn, ?_⟩
  show wpAny _ _ (call (.ref C) [u]) _ _ _; have hlimz := I1.nolimit
  have G := gb_of I1
  obtain ⟨hpz, gz, drz, tk, osz⟩ := s1z
  exact wpAny_call (made_place T.ec it T.iC T.tC I1.kIn G B.nE B.vE hlimz (by omega) fun h' tkz' e d M => made_of (R := fun _ => True) I1 M ruz (raises_own T.exC T.tyC) q1z)
theorem pmk_wrong {a b : Expr} {ta : TA} {p pos : Pos} (B : ExB X.K X.mg) (T : ExC X.K X.mg x C fI "answer") (it : wIT X.K fI) (RR : RT X.K X.mg CR fR) (dp : X.A.depth + 10 < recursionLimit) (ha : PA X [a, b] ta) (hgz : Gl X x := by rfl) (hdb : (x == ("__debug__" : Str)) = false := by decide)
    (he : starEach (a :: [b]) X.env = (false, eval a X.env) :: starEach [b] X.env := by rfl) (hpl : (backTo pos (starEach [b] X.env)).any (·.1) = false := by rfl) :
    L2H.PMk5 X (.Call (.Name x p) [a, b] [] pos) (tMkW C ta) := by
  intro pinsz s σ H Q I hz
  refine wpAny_Call_Name_kw (ld_glob I hgz T.gC ?_ hdb)
  refine PySem.W.callWith_K (h₀ := X.base) I.ok.mod.kin T.kC (thn (ha.run pos pinsz s σ H _ I hz) fun us s1z hhz => ?_) he hpl
  obtain ⟨vs, H1, I1, r1z, v1z, v2z, evz, q1z⟩ := hhz
  subst evz
  obtain ⟨u1z, u2z, rfl, ru1z, ru2z⟩ := vals2 r1z
  refine ⟨I1.kIn, ?_⟩
  show wpAny _ _ (call (.ref C) [u1z, u2z]) _ _ _
  have hlimz := I1.nolimit
  have G := gb_of I1
  obtain ⟨hpz, gz, drz, tk, osz⟩ := s1z
  exact wpAny_call (wmade T.ec RR it T.iC T.tC I1.kIn G B.nE B.vE hlimz (by omega) fun h' tkz' e L d tnz M => made2_of (vs := [.int (-5), v1z, v2z]) I1 M (.cons (show RelV (.int (-5)) _ from ⟨tnz, rfl⟩) (.cons ru1z (.cons ru2z .nil))) (by show 3 ≤ 1000; decide) (raises_own T.exC T.tyC) q1z)
theorem pmk_neg {n : Int} {p pos : Pos} (B : ExB X.K X.mg) (T : ExC X.K X.mg x C fI "answer") (it : nIT X.K fI n) (RR : RT X.K X.mg CR fR) (dp : X.A.depth + 10 < recursionLimit) (hgz : Gl X x := by rfl) (hdb : (x == ("__debug__" : Str)) = false := by decide) :
    L2H.PMk5 X (.Call (.Name x p) [] [] pos) (tMkN C n) := by
  intro pinsz s σ H Q I hz
  refine wpAny_Call_Name_kw (ld_glob I hgz T.gC ?_ hdb)
  refine PySem.W.callWith_K0 I.kIn T.kC ?_
  show wpAny _ _ (call (.ref C) []) _ _ _
  have hlimz := I.nolimit
  have G := gb_of I
  have I1 := I
  obtain ⟨hpz, gz, drz, tk, osz⟩ := s
  exact wpAny_call (nmade T.ec RR it T.iC T.tC I1.kIn G B.nE B.vE hlimz (by omega) fun h' tkz' e L d tnz M => made2_of (vs := [.int (-n)]) I1 M (.cons (show RelV (.int (-n)) _ from ⟨tnz, rfl⟩) .nil) (by show 1 ≤ 1000; decide) (raises_own T.exC T.tyC) hz)
end
end L2
namespace Tc
open PySem L2 PySem.Spec PyProof.Rows
/-- the function that stands at anz address of the written part -/
def fdA (K : PySem.W.Frag) (f : Addr) : FuncData := match K.lookup f with
  | some ⟨_, _, .func fd, _⟩ => fd
  | _ => ⟨"", "", ⟨[], [], none, [], [], none, []⟩, .stmts [], ⟨.function, [], false, false, []⟩, 0, [], .none, .none, .none, .none, none, .none, .none, 0⟩
abbrev ga := @He.ga
abbrev fd (K : PySem.W.Frag) (x : Str) : FuncData := fdA K (ga K x)
/-- the def m of the class x -/
abbrev ma (K : PySem.W.Frag) (x m : Str) : Addr := He.ma K (ga K x) m
/-- a def that stands at f -/
structure DfA (K : PySem.W.Frag) (x q : Str) (f : Addr) (st : Stmt) (ps : List Str) : Prop where
  fn : Fun K x q st f (fdA K f)
  b : L2.Binds K (fdA K f) ps []
  k : PySem.W.keepIn K (.ref f) = true
/-- a def of the module -/
structure Df (K : PySem.W.Frag) (mg : Str → Option Value) (x : Str) (st : Stmt) (ps : List Str) : Prop extends DfA K x x (ga K x) st ps where
  g : mg x = some (.ref (ga K x))
def IntC (mg : Str → Option Value) (x : Str) (i : Int) : Prop := ∃ u, mg x = some u ∧ RelV (.int i) u
/-- a class of the text whose instances are made by __init__ -/
structure Kl (K : PySem.W.Frag) (mg : Str → Option Value) (x : Str) : Prop where
  g : mg x = some (.ref (ga K x))
  cl : Cls K (ga K x)
  mkr : Mk K (ga K x) (ma K x "__init__")
abbrev Na (K : PySem.W.Frag) (x f : Str) : Prop := NoAttr K (ga K x) f
abbrev Mt (K : PySem.W.Frag) (x m : Str) : Prop := Meth K (ga K x) m (ma K x m)
/-- anz own exception: the class's name, its __init__ -/
abbrev Ex1 (K : PySem.W.Frag) (mg : Str → Option Value) (x : Str) (f : Str) : Prop := ExC K mg x (ga K x) (ma K x "__init__") f
/-- a written tuple: all of it but the texts' tokens -/
def TupK (K : PySem.W.Frag) (a : Addr) (xs : List V) : Prop := ∀ H, SqT K H a xs
/-- a written tuple of pairs of numbers -/
def PairsK (K : PySem.W.Frag) (a : Addr) (l : List (Nat × Nat)) : Prop := ∃ ts : List Addr, TupK K a (ts.map V.ref) ∧ ts.length = l.length ∧ ∀ (i : Nat) (x : Nat × Nat), l[i]? = some x → ∃ t, ts[i]? = some t ∧ TupK K t [.int x.1, .int x.2]
section
variable {K : PySem.W.Frag} {mg : Str → Option Value} {base : Heap} {P : Program} {w : World}
/-- as Fun.okX, for a def that raises where nothing is handled -/
theorem okN {x qual : Str} {st : Stmt} {f : Addr} {fd : FuncData} {N ps : List Str} {k : Nat} {sp : Sp} (F : Fun K x qual st f fd) (S : FnScope N ps (defScope st)) (len : ∀ vs H Q E, sp vs H Q E → vs.length = ps.length)
    (hb : ∀ (cdvz : Value) (A : Around) (outer : List Env) (s : Shared) (H : Hp) (vs : List V) (Q : VK) (E : XK), cdvz = fd.code → Room k (A.deeper (envOfC qual (defScope st) s.heap.objs.size f cdvz)) → sp vs H Q E →
      ∃ t, PSs (cxOf (L2N.CX P w) P w K mg base N qual (defScope st) f cdvz A outer s H E) (defBody st) t ∧ t { nx := fun _ H' => Q .non H', rt := Q } (start N vs) H) : FnOk P w K mg base (L2N.CX P w) (k + 1) f fd ps sp := by
  obtain ⟨ocz, od, kVz, docz, pmz, anz, cdvz, ctz, oslz, rfl, lkz, hcdz⟩ := F.ex
  exact fn_of lkz hcdz S len fun A outer s H vs Q E hrz hspz => hb cdvz A outer s H vs Q E rfl hrz hspz
end
/-- the wish about exceptions of such a def -/
theorem tkN {P : Program} {w : World} {K : PySem.W.Frag} {mg : Str → Option Value} {base : Heap} {N : List Str} {qual : Str} {scope : Scope} {f : Addr} {cd : Value} {A : Around} {outer : List Env} {s : Shared} {H : Hp} {E : XK} :
    L2N.Takes (cxOf (L2N.CX P w) P w K mg base N qual scope f cd A outer s H E) (fun clsz d _ H' => E clsz d H') := L2N.takes_of rfl rfl rfl rfl
/-- .. of a def whose exceptions may have a context -/
theorem tkZ {P : Program} {w : World} {K : PySem.W.Frag} {mg : Str → Option Value} {base : Heap} {N : List Str} {qual : Str} {scope : Scope} {f : Addr} {cd : Value} {A : Around} {outer : List Env} {s : Shared} {H : Hp} {E : XK} :
    L2.Takes (cxOf (L2.CX P w) P w K mg base N qual scope f cd A outer s H E) (fun clsz d _ H' => E clsz d H') := L2.takes_of rfl rfl rfl rfl
end Tc
namespace Tl
open PySem PySem.Spec PyProof.Rows L2 LamX NdefX
/-- names of a lambda: its parameters, captured names, globals -/
structure LamP (N ps : List Str) (sc scope : Scope) : Prop where
  kind : scope.kind = .function
  (co : scope.isCoroutine = false)
  (gen : scope.isGenerator = false)
  own : ∀ yz ∈ scope.names, yz.2 = .local → yz.1 ∈ ps
  nocell : ∀ yz ∈ scope.names, yz.2 ≠ .cell
  par : ∀ yz ∈ ps, scope.names.lookup yz = some .local
  free : ∀ yz ∈ scope.names, yz.2 = .free → sc.names.lookup yz.1 = some .cell ∨ sc.names.lookup yz.1 = some .free
  dis : ∀ yz ∈ ps, yz ∉ N
  nd : ps.Nodup
def lamPB (N ps : List Str) (sc scope : Scope) : Bool :=
  decide (scope.kind = .function) && (!scope.isCoroutine && (!scope.isGenerator && (scope.names.all (fun yz => !decide (yz.2 = .local) || decide (yz.1 ∈ ps)) && (scope.names.all (fun yz => !decide (yz.2 = .cell)) && (ps.all (fun yz => decide (scope.names.lookup yz = some .local)) &&
    (scope.names.all (fun yz => !decide (yz.2 = .free) || decide (sc.names.lookup yz.1 = some .cell) || decide (sc.names.lookup yz.1 = some .free)) && (ps.all (fun yz => !decide (yz ∈ N)) && decide ps.Nodup)))))))
theorem lamP_by {N ps : List Str} {sc scope : Scope} (hz : lamPB N ps sc scope = true) : LamP N ps sc scope := by
  unfold lamPB at hz
  simp only [Bool.and_eq_true, Bool.or_eq_true, Bool.not_eq_true', decide_eq_true_eq, decide_eq_false_iff_not, List.all_eq_true] at hz
  obtain ⟨h1z, h2z, h3z, h4z, h5z, h6z, h7z, h8z, h9z⟩ := hz
  refine ⟨h1z, h2z, h3z, fun yz hyz e => (h4z yz hyz).elim (fun zz => absurd e zz) id, h5z, h6z, fun yz hyz e => ?_, h8z, h9z⟩
  rcases h7z yz hyz with (zz | zz) | zz
  · exact absurd e zz
  · exact .inl zz
  · exact .inr zz
/-- the lambda that stands at f -/
def LamO (f : Addr) (q : Str) (params : Arguments) (body : Expr) (scope : Scope) (cl : List (Str × Addr)) (cz' : Addr) : HO := .ext fun hz => ∃ pmz ctvz, hz.get? f = some (PySem.W.kla_obj "<lambda>" q params body scope cl pmz cz' ctvz)
section
variable {X : Cx} {pinsz : List (Addr × Obj)} {σ : L2.St} {H HZ : Hp} {s s1z : Shared} {N ps : List Str}
theorem LamP.has {scope : Scope} (L : LamP N ps X.env.scope scope) (ok : X.Ok) : ∀ yz ∈ scope.names, yz.2 = .free → ∃ c, X.env.cells.lookup yz.1 = some c := fun yz hyz e => by
  rcases L.free yz hyz e with k | k
  · exact ok.has _ (.inl k)
  · exact ok.has _ (.inr k)
/-- the context of the lambda's body: the maker's names, then its parameters -/
def lamCx (X : Cx) (A : Around) (outer : List Env) (s : Shared) (H : Hp) (ps : List Str) (scope : Scope) (f cz' : Addr) : Cx where
  prog := X.prog
  w := X.w
  K := X.K
  mg := X.mg
  base := X.base
  A := A.deeper (lamEnv X scope s.heap.objs.size f cz')
  N := X.N ++ ps
  s_0 := s
  H_0 := H
  env := lamEnv X scope s.heap.objs.size f cz'
  outer := outer
  stack := lamEnv X scope s.heap.objs.size f cz' :: outer
  ex := []
  fn := fun _ => false
  calm := true
  pn := []
  xe := fun e sz' => wpAny (model X.prog X.w) (A.deeper (lamEnv X scope s.heap.objs.size f cz')) (leaving (lamEnv X scope s.heap.objs.size f cz') e) (fun _ _ => False) (fun _ _ => False) sz'
theorem lam_startP {A : Around} {outer : List Env} {scope : Scope} {f cz' : Addr} {h₁ : Heap} {tk : Nat} {us : List Value} {vs : List V} (I : Inv X pinsz σ H s) (L : LamP X.N ps X.env.scope scope) (hlz : vs.length = ps.length) (r : Vals vs us) (e0z : Env0 X.prog X.w X.K X.mg X.base A outer s1z HZ) (hdz : A.handled = none)
    (unz : Un (frs X.stack) [] H HZ s.heap s1z.heap) (hnsz : h₁.Ns s1z.heap.objs.size fun yz => (ps.zip us).reverse.lookup yz) (kpz : ∀ b o, s1z.heap.get? b = some o → h₁.get? b = some o) :
    Inv (lamCx X A outer s1z HZ ps scope f cz') [] (σ ++ vs.map some) HZ { s1z with heap := h₁, toks := tk } := by
  have hfree := L.has I.ok
  have cmz : ∀ {yz c}, (cloFrom X.env.cells scope.names []).lookup yz = some c → X.env.cells.lookup yz = some c := fun {yz c} e => clo_cm hfree e
  have lookz : ∀ {yz}, scope.names.lookup yz = some .free → ∃ c, (cloFrom X.env.cells scope.names []).lookup yz = some c := fun {yz} hlz => by
    have hyz : (yz, NameKind.free) ∈ scope.names := PySem.mem_of_lookup hlz
    exact mem_lookup (cloFrom_has (cells := X.env.cells) (acc := []) hyz)
  have cellK : ∀ {c : Addr} {v : Option Value}, H c = none → s.heap.IsCell c v → h₁.IsCell c v := fun {c v} n ⟨o, hoz, hdz⟩ => by
    obtain ⟨slz, q⟩ := unz.any hoz n (by simp)
    exact ⟨_, kpz _ _ q, hdz⟩
  have noAz : ∀ b : Addr, b ∉ (lamCx X A outer s1z HZ ps scope f cz').ex := fun b zz => absurd (show b ∈ ([] : List Addr) from zz) (by simp)
  refine ⟨⟨e0z.mod, L.kind, rfl, rfl, Nat.le_refl _, fun yz zz c e1z e2z => I.ok.inj yz zz c (cmz e1z) (cmz e2z), fun yz hyz => ?_, fun yz c zz _ => ?_, fun _ => hdz, Around.frames_deeper e0z.frames, .inr ⟨rfl, rfl⟩, fun b zz => absurd zz (noAz b), e0z.bs, e0z.bsz, fun b _ _ => noAz b,
      fun b zz => absurd zz (noAz b), e0z.funs, e0z.frf⟩,
    rfl, e0z.bare, Un.kept kpz, ⟨_, hnsz, fun i yz v e1z e2z e3z => ?_⟩, fun yz c e => ?_, e0z.hok.fresh (Nat.le_refl _), fun yz c e => ?_, fun q hqz => absurd (show q ∈ ([] : List (Addr × Obj)) ++ [] from hqz) (by simp), e0z.hok.kept kpz, ?_⟩
  · have hyz : scope.names.lookup yz = some .cell ∨ scope.names.lookup yz = some .free := hyz
    rcases hyz with hyz | hyz
    · exact absurd rfl (L.nocell _ (PySem.mem_of_lookup hyz))
    · exact lookz hyz
  · have zz : false = true := zz
    cases zz
  · have e3z : Vis scope yz := e3z
    have e1z : (X.N ++ ps)[i]? = some yz := e1z
    have lenz : σ.length = X.N.length := I.len
    by_cases hiz : i < X.N.length
    · rw [List.getElem?_append_left hiz] at e1z
      rw [List.getElem?_append_left (by omega)] at e2z
      rcases e3z with k | k | k
      · exact absurd (List.mem_of_getElem? e1z) (L.dis _ (L.own _ (PySem.mem_of_lookup k) rfl))
      · exact absurd rfl (L.nocell _ (PySem.mem_of_lookup k))
      · obtain ⟨m, hnz, hlz⟩ := I.loc
        have hvisz : Vis X.env.scope yz := (L.free _ (PySem.mem_of_lookup k) rfl).elim (fun k => .inr (.inl k)) (fun k => .inr (.inr k))
        obtain ⟨wz', r, q⟩ := hlz i yz v e1z e2z hvisz
        obtain ⟨c2z, h2z⟩ := lookz k
        refine ⟨wz', r, .inr ⟨.inr k, c2z, h2z, ?_⟩⟩
        have c1z := cmz h2z
        rcases q with ⟨k', _⟩ | ⟨_, c3z, ez', zz⟩
        · have k' : X.env.scope.names.lookup yz = some .local := k'
          rcases L.free _ (PySem.mem_of_lookup k) rfl with k2 | k2 <;> rw [show X.env.scope.names.lookup yz = _ from k2] at k' <;> cases k'
        · rw [c1z] at ez'
          cases ez'
          exact cellK (I.freeC yz _ c1z) zz
    · have hiz : X.N.length ≤ i := Nat.le_of_not_lt hiz
      rw [List.getElem?_append_right hiz] at e1z
      rw [List.getElem?_append_right (by omega), lenz, List.getElem?_map] at e2z
      have haz : vs[i - X.N.length]? = some v := by
        cases e : vs[i - X.N.length]? with
        | none => rw [e] at e2z; cases e2z
        | some a => rw [e] at e2z; cases e2z; rfl
      obtain ⟨u, huz, rvz⟩ := r.get haz
      exact ⟨u, rvz, .inl ⟨L.par yz (List.mem_of_getElem? e1z), zip_look L.nd e1z huz⟩⟩
  · obtain ⟨wz', zz⟩ := I.cell yz c (cmz e)
    exact ⟨wz', cellK (I.freeC yz c (cmz e)) zz⟩
  · obtain ⟨v, o, hoz, hdz⟩ := I.cell yz c (cmz e)
    exact unz.free c o hoz (I.freeC yz c (cmz e)) (by simp)
  · show (σ ++ vs.map some).length = (X.N ++ ps).length
    rw [List.length_append, List.length_append, List.length_map, hlz]
    exact congrArg (· + _) I.len
/-- a lambda as a value: its object is tracked -/
def tLam (X : Cx) (T : List (Addr × Str)) (params : Arguments) (body : Expr) (scope : Scope) : TE := fun σ H Q => Tabs T H ∧ ∀ f cz' H1, ExtN H H1 → Tabs T H1 → (∀ b, H1 b = none → H b = none) → H f = none → H1 f = some (LamO f (X.env.qual ++ "<lambda>") params body scope (cloFrom X.env.cells scope.names []) cz') →
  H1 cz' = some (CodeO cz' (X.env.qual ++ "<lambda>")) → Q (.ref f) H1
theorem lamO_ne {f : Addr} {q : Str} {params : Arguments} {body : Expr} {scope : Scope} {cl : List (Str × Addr)} {cz' : Addr} (ps : Array Value) : LamO f q params body scope cl cz' ≠ .tbl ps := fun zz => by
  unfold LamO at zz
  cases zz
/-- a function object is laid and tracked -/
theorem inv_lam {q : Str} {params : Arguments} {body : Expr} {scope : Scope} {cl : List (Str × Addr)} {pmz ctvz : Value} {cz' : Addr} {tk : Nat} (J : Inv X pinsz σ H s) :
    Inv X pinsz σ (upd H s.heap.objs.size (LamO s.heap.objs.size q params body scope cl cz')) { s with heap := s.heap.push (PySem.W.kla_obj "<lambda>" q params body scope cl pmz cz' ctvz), toks := tk } := by
  have at_ : (s.heap.push (PySem.W.kla_obj "<lambda>" q params body scope cl pmz cz' ctvz)).get? s.heap.objs.size = some (PySem.W.kla_obj "<lambda>" q params body scope cl pmz cz' ctvz) := Heap.get?_push_size _ rfl
  exact J.laid (a := s.heap.objs.size) (fun b u zz => Heap.get?_push_of_some _ zz) (Nat.le_refl _) ⟨⟨pmz, ctvz, at_⟩, ⟨_, at_⟩, fun _ _ ⟨p1z, p2z, zz⟩ st => ⟨p1z, p2z, st _ zz⟩⟩
theorem free_back {a b : Addr} {o : HO} (zz : upd H a o b = none) : H b = none := by
  unfold upd at zz
  split at zz
  · cases zz
  · exact zz
theorem pe_lam {T : List (Addr × Str)} {c P : Addr} {params : Arguments} {body : Expr} {scope : Scope} {pos : Pos} (TB : TabB X.base X.mg c P) (hcode : X.env.code = .ref c) (hm : (P, X.env.qual ++ "<lambda>") ∈ T) (huz : ∀ p ∈ T, p.1 = P → p.2 = X.env.qual ++ "<lambda>")
    (L : LamP X.N ps X.env.scope scope) (hdef : defaultsOf params X.env = ([], [])) : PE X (.Lambda params body scope pos) (tLam X T params body scope) := by
  refine ⟨fun pinsz s σ H Q I hz => ?_⟩
  obtain ⟨hTz, hz⟩ := hz
  obtain ⟨tabz, hPz, htz, haz⟩ := hTz _ hm
  have hfree := L.has I.ok
  have bPz : s.heap.BuiltinsAt X.mg P := TB.bm.keeps I.bk
  have hPz' : s.heap.get? P = some { cls := .none, data := .fields tabz } := I.hok P _ hPz; refine PySem.W.kla_eval hdef ?_
  -- the end: the object is pushed on a heap h2z at which J holds
  have finz : ∀ {H2 : Hp} {s2 : Shared} {cz' : Addr} {pmz ctvz : Value} {tk : Nat}, Inv X pinsz σ H2 s2 → ExtN H H2 → Tabs T H2 → (∀ b, H2 b = none → H b = none) → H2 cz' = some (CodeO cz' (X.env.qual ++ "<lambda>")) →
      EP X pinsz σ Q (.ref s2.heap.objs.size) { s2 with heap := s2.heap.push (PySem.W.kla_obj "<lambda>" (X.env.qual ++ "<lambda>") params body scope (cloFrom X.env.cells scope.names []) pmz cz' ctvz), toks := tk } := by
    intro H2 s2 cz' pmz ctvz tk J e2z t2z f2z hc2z
    have nfz : H2 s2.heap.objs.size = none := J.hok.fresh (Nat.le_refl _)
    have k3z : ∀ b o, H2 b = some o → upd H2 s2.heap.objs.size (LamO s2.heap.objs.size (X.env.qual ++ "<lambda>") params body scope (cloFrom X.env.cells scope.names []) cz') b = some o := fun b o zz => by
      rw [upd_ne (ne_of_none zz nfz)]
      exact zz
    exact ⟨.ref s2.heap.objs.size, _, inv_lam J, rfl, hz _ cz' _ (e2z.trans (ExtN.of k3z)) (t2z.ext k3z) (fun b zz => f2z b (free_back zz)) (f2z _ nfz) upd_same (k3z _ _ hc2z)⟩
  cases hc : codeAmong pos tabz.toList with
  | none =>
    refine PySem.W.kla_makeFunction (mg := X.mg) (c := c) (P := P) (ps := tabz) (closure_ok hfree) I.ok.glob (I.mod.glob.keeps I.bk) hcode (TB.code.keeps I.bk) hPz' htz hc TB.gP bPz fun cz' ctvz h' tk hxz hgez hltz hrecz htbz => ?_
    obtain ⟨c2z, ocz, vs, tz, e2z, hocz, hdz, hvz⟩ := hrecz
    cases e2z
    have nCz : H cz' = none := I.hok.fresh hgez
    have J := inv_table (t' := tk) (more := #[rawInt pos.line, rawInt pos.col, .ref cz']) (h' := h') I hPz (fun b o hbz e => hxz b o hbz e) htbz hgez ⟨ocz, vs, tz, hocz, hdz, hvz⟩
    have hEz : ExtN H (upd (upd H P (.tbl (tabz ++ #[rawInt pos.line, rawInt pos.col, .ref cz']))) cz' (CodeO cz' (X.env.qual ++ "<lambda>"))) := fun b o e n => by
      have nbz : b ≠ P := fun zz => by
        rw [zz, hPz] at e
        exact n tabz (Option.some.inj e).symm
      rw [upd_ne (ne_of_none e nCz), upd_ne nbz]
      exact e
    have eLz : (tabz ++ #[rawInt pos.line, rawInt pos.col, .ref cz']).toList = tabz.toList ++ [rawInt pos.line, rawInt pos.col, .ref cz'] := by simp
    refine finz J hEz (fun p hpz => ?_) (fun b zz => ?_) upd_same
    · by_cases hbz : p.1 = P
      · rw [huz p hpz hbz, hbz]
        refine ⟨_, by rw [upd_ne (ne_of_none hPz nCz), upd_same], by rw [eLz]; exact PySem.TriplesOk_snoc _ _ _ _ htz, fun pz' cvz hcvz => ?_⟩
        rw [eLz] at hcvz
        rcases among_app _ htz hcvz with zz | zz
        · obtain ⟨c0z, e1z, e2z⟩ := haz pz' cvz zz
          exact ⟨c0z, e1z, hEz _ _ e2z codeO_ne⟩
        · exact ⟨cz', zz, upd_same⟩
      · obtain ⟨tabz', a1z, a2z, a3z⟩ := hTz p hpz
        refine ⟨tabz', by rw [upd_ne (ne_of_none a1z nCz), upd_ne hbz]; exact a1z, a2z, fun pz' cvz hcvz => ?_⟩
        obtain ⟨c0z, e1z, e2z⟩ := a3z pz' cvz hcvz
        exact ⟨c0z, e1z, hEz _ _ e2z codeO_ne⟩
    · have z1z := free_back zz
      exact free_back z1z
  | some cvz =>
    obtain ⟨cz', e, hcoz⟩ := haz pos cvz hc
    subst e
    refine PySem.W.kla_makeFunctionHit (mg := X.mg) (c := c) (P := P) (ps := tabz) (closure_ok hfree) I.ok.glob (I.mod.glob.keeps I.bk) hcode (TB.code.keeps I.bk) hPz' htz hc bPz fun ctvz h' tk hxz hszz => ?_
    exact finz (s2 := { s with heap := h', toks := tk }) (I.kept hxz) (ExtN.refl H) hTz (fun _ zz => zz) hcoz
/-- a(e, ..) in the def that got the lambda: its context begins at s -/
theorem pe_act {CXg : CXT} {Eg : XK} {Ng : List Str} {qg : Str} {sg : Scope} {g f cz' : Addr} {cdg : Value} {params : Arguments} {body : Expr} {scope : Scope} {k i : Nat} {a : Str} {ta : TA} {tb : TE} {e : Expr} {es : List Expr} {p1z p2z : Pos} {A0 : Around} {st0 : List Env}
    (I : Inv X pinsz σ H s) (hst : st0 = X.stack) (L : LamP X.N ps X.env.scope scope) (hf : H f = some (LamO f (X.env.qual ++ "<lambda>") params body scope (cloFrom X.env.cells scope.names []) cz'))
    (hbind : ∀ (q : Str) (cl : List (Str × Addr)) (pmz cvz ctvz : Value) (us : List Value), us.length = ps.length → bindArgs (PySem.W.kla_fn "<lambda>" q params body scope cl pmz cvz ctvz) ⟨us, []⟩ = pure (ps.zip us))
    (hr : Room (k + 1) (A0.deeper (envOfC qg sg s.heap.objs.size g cdg)))
    (hbody : ∀ (A : Around) (outer : List Env) (s : Shared) (H : Hp), Room k (A.deeper (lamEnv X scope s.heap.objs.size f cz')) → PE (lamCx X A outer s H ps scope f cz') body tb)
    (hN : Ng[i]? = some a) (hvz : Vis sg a) (haz : PA (cxOf CXg X.prog X.w X.K X.mg X.base Ng qg sg g cdg A0 st0 s H Eg) (e :: es) ta) (hdz : (a == ("__debug__" : Str)) = false := by decide) (hcdz : (a == ("__classdict__" : Str)) = false := by decide)
    (he : starEach (e :: es) (cxOf CXg X.prog X.w X.K X.mg X.base Ng qg sg g cdg A0 st0 s H Eg).env = (false, eval e (cxOf CXg X.prog X.w X.K X.mg X.base Ng qg sg g cdg A0 st0 s H Eg).env) :: starEach es (cxOf CXg X.prog X.w X.K X.mg X.base Ng qg sg g cdg A0 st0 s H Eg).env := by rfl)
    (hpl : (backTo p2z (starEach es (cxOf CXg X.prog X.w X.K X.mg X.base Ng qg sg g cdg A0 st0 s H Eg).env)).any (·.1) = false := by rfl) :
    PE (cxOf CXg X.prog X.w X.K X.mg X.base Ng qg sg g cdg A0 st0 s H Eg) (.Call (.Name a p1z) (e :: es) [] p2z)
      (fun σZ HZ Q => σZ[i]? = some (some (.ref f)) ∧ HZ f = some (LamO f (X.env.qual ++ "<lambda>") params body scope (cloFrom X.env.cells scope.names []) cz') ∧ ta σZ HZ fun vs H1 => vs.length = ps.length ∧ H1 f = some (LamO f (X.env.qual ++ "<lambda>") params body scope (cloFrom X.env.cells scope.names []) cz') ∧ H1 cz' = some (CodeO cz' (X.env.qual ++ "<lambda>")) ∧ tb (σ ++ vs.map some) H1 Q) := by
  subst hst
  refine ⟨fun pinsZ sZz σZ HZ Q IZ hz => ?_⟩
  obtain ⟨hsz, hf0z, htz⟩ := hz
  refine wpAny_Call_Name_kw (thn ((pe_var (pos := p1z) (i := i) hN hvz hdz hcdz).run pinsZ sZz σZ HZ (fun v H1 => v = .ref f ∧ H1 = HZ) IZ ⟨.ref f, hsz, rfl, rfl⟩) fun u s1z ⟨v, H1, I1, r1z, q1z⟩ => ?_)
  obtain ⟨rfl, rfl⟩ := q1z
  obtain rfl : u = Value.ref f := r1z
  have fnAtz : ∀ {pins' : List (Addr × Obj)} {σ' : L2.St} {H' : Hp} {sz' : Shared}, Inv (cxOf CXg X.prog X.w X.K X.mg X.base Ng qg sg g cdg A0 X.stack s H Eg) pins' σ' H' sz' → H' f = some (LamO f (X.env.qual ++ "<lambda>") params body scope (cloFrom X.env.cells scope.names []) cz') →
      PySem.W.FnAt f sz'.heap := fun {pins' σ' H' sz'} J zz => by
    obtain ⟨⟨pmz, ctvz, hoz⟩, _, _⟩ := J.hok f _ zz
    exact ⟨_, _, _, _, hoz⟩
  refine PySem.W.callWith_F (first := []) (fnAtz I1 hf0z) (thn (haz.run p2z pinsZ s1z σZ H1 _ I1 htz) fun us s2 ⟨vs, H2, I2, rvz, hlz, h1z, h2z, q⟩ => ⟨fnAtz I2 h1z, ?_⟩) he hpl
  show wpAny _ _ (call (.ref f) us) _ _ _; have unz : Un (frs X.stack) [] H H2 s.heap s2.heap := I2.base
  obtain ⟨⟨pmz, ctvz, hoz⟩, _, _⟩ := I2.hok f _ h1z
  obtain ⟨⟨ocz, vsz', tz, hocz, hdcz, hvcz⟩, _, _⟩ := I2.hok cz' _ h2z
  have hluz : us.length = ps.length := by rw [← rvz.length]; exact hlz
  have e0z := I2.env0
  refine wpAny_call (codeAny_mono (R := CR (fun _ _ _ _ _ _ => False) (envOfC qg sg s.heap.objs.size g cdg :: X.stack) X.prog X.w H2 s2 Q (fun _ _ _ => False)) ?_ fun r sz' hqz => ?_)
  · refine PySem.W.kla_callFunE hr.depth hoz rfl L.co L.gen rfl ⟨cz', ocz, vsz', tz, rfl, hocz, hdcz, hvcz⟩ ?_
    rw [hbind _ _ _ _ _ us hluz]
    refine wpAny_pure (wpAny_newFunctionEnv L.nocell (fun ⟨n, _⟩ hyz => L.par n (List.of_mem_zip hyz).1) (fun h₁ hnsz hsbz => ⟨I2.nolimit.fresh _ hsbz, ?_⟩) L.kind)
    show codeAny _ _ (.expr body (lamEnv X scope s2.heap.objs.size f cz')) _ _
    have kpz : ∀ b o, s2.heap.get? b = some o → h₁.get? b = some o := fun b o zz => hsbz.extBut b o (Nat.ne_of_lt (Heap.lt_size zz)) (Heap.get?_push_of_some _ zz)
    have J : Inv (lamCx X (A0.deeper (envOfC qg sg s.heap.objs.size g cdg)) (envOfC qg sg s.heap.objs.size g cdg :: X.stack) s2 H2 ps scope f cz') [] (σ ++ vs.map some) H2 { s2 with heap := h₁, toks := s2.toks + (ps.zip us).length } :=
      lam_startP I L hlz rvz e0z hr.hd unz hnsz kpz
    refine PySem.W.kla_codeExpr (wpAny_mono ((hbody _ _ s2 H2 (hr.deeper _)).run [] _ _ H2 Q J q) (fun v sz' hqz => ?_) fun e sz' hqz => hqz)
    obtain ⟨wz', H', J', rvz', qz'⟩ := hqz
    exact ⟨wz', H', J'.os, J'.bare, J'.base, J'.hok, rvz', qz'⟩
  · cases r with
    | error e => exact (show False from hqz).elim
    | ok fl =>
      cases fl with
      | ret u => exact I2.after hqz
      | next => exact False.elim hqz
      | brk => exact False.elim hqz
      | cont => exact False.elim hqz
/-- f(e, ..) of a def whose walk may lean on the caller's state -/
theorem pe_callI {CX : CXT} {x : Str} {st : Stmt} {g : Addr} {fd : FuncData} {N qs : List Str} {k : Nat} {E : XK} {sp : L2.St → List V → Hp → VK → Prop} {p pos : Pos} {e : Expr} {es : List Expr} {tz : TA} (F : Fun X.K x x st g fd) (S : FnScope N qs (defScope st)) (hbz : Binds X.K fd qs []) (hr : Room (k + 1) X.A) (hg : Gl X x) (hm : X.mg x = some (.ref g))
    (hxz : Passes CX X E) (hlen : ∀ σ vs H Q, sp σ vs H Q → vs.length = qs.length)
    (hG : ∀ (cdvz : Value) (pinsz : List (Addr × Obj)) (σ : L2.St) (s : Shared) (H : Hp) (vs : List V) (Q : VK), Inv X pinsz σ H s → sp σ vs H Q → Room k (X.A.deeper (envOfC x (defScope st) s.heap.objs.size g cdvz)) →
      ∃ tz, PSs (cxOf CX X.prog X.w X.K X.mg X.base N x (defScope st) g cdvz X.A X.stack s H E) (defBody st) tz ∧ tz { nx := fun _ H' => Q .non H', rt := Q } (L2.start N vs) H)
    (haz : PA X (e :: es) tz) (hdb : (x == ("__debug__" : Str)) = false := by decide) (he : starEach (e :: es) X.env = (false, eval e X.env) :: starEach es X.env := by rfl) (hpl : (backTo pos (starEach es X.env)).any (·.1) = false := by rfl) :
    PE X (.Call (.Name x p) (e :: es) [] pos) (fun σ H Q => tz σ H fun vs H1 => sp σ vs H1 Q) := by
  refine ⟨fun pinsz s σ H Q I hz => ?_⟩
  refine wpAny_Call_Name_kw (ld_glob I hg hm ?_ hdb); refine PySem.W.callWith_K (h₀ := X.base) I.ok.mod.kin F.kp (thn (haz.run pos pinsz s σ H _ I hz) fun us s1z ⟨vs, H1, I1, r, q⟩ => ⟨I1.kIn, ?_⟩) he hpl
  show wpAny _ _ (call (.ref g) us) _ _ _
  obtain ⟨ocz, od, kVz, docz, pmz, anz, cdvz, ctz, oslz, rfl, lkz, hcdz⟩ := F.ex
  have hlz := hlen _ _ _ _ q
  have hluz : us.length = qs.length := by rw [← r.length]; exact hlz
  refine wpAny_call (codeAny_mono (run_ofS (N := N) (ps := qs) (us := us) (vs := vs) (Q := Q) (E := E) (CX := CX) lkz hcdz S hr I1.env0 (by simpa using hbz s1z us I1.kIn (by simpa using hluz)) r hlz fun hrz' => hG cdvz pinsz σ s1z H1 vs Q I1 q hrz') fun r sz' hqz => ?_)
  cases r with
  | error e => exact hxz pinsz σ H1 s1z e sz' I1 hqz
  | ok fl =>
    cases fl with
    | ret u => exact I1.after hqz
    | next => exact False.elim hqz
    | brk => exact False.elim hqz
    | cont => exact False.elim hqz
end
end Tl
namespace Tl
open PySem L2 PySem.Spec PyProof.Rows
section
variable {X : Cx} {x n : Str} {c : Value} {i : Nat} {body suite orelse : List Stmt} {b₀ : Stmt} {np pos pos' : Pos} {tb : WX → TS} {ts : Addr → Value → Option Addr → TS} {u : TS} {Wout : WX}
theorem not_frame {B hz : Heap} {l : List Env} {a : Addr} {o : Obj} {vs : Array Value} (ff : hz.FunFrames B l) (ga : hz.get? a = some o) (gd : o.data = .fields vs) : a ∉ frs l := fun hmz => by
  obtain ⟨_, oz', ez', hnfz⟩ := ff.mem hmz
  rw [ga] at ez'
  cases ez'
  exact hnfz _ gd
/-- try: body / except x as n: suite / else: orelse; the suite lets nothing out; contexts are None -/
theorem ps_try_asE (ho : PSs X orelse u) (hs : X.stack = X.env :: X.outer) (hf : X.env.frame = some X.env.locals) (hN : X.N.Nodup) (hi : X.N[i]? = some n) (hln : X.env.kindOf n = some .local) (hcz : Names X x c) (tk : L2N.Takes X Wout)
    (hbz : ∀ (W : WX) (pn : List (Addr × Obj)) (xe : Value → Shared → Prop), L2N.Takes (X.tr pn xe) W → PassesOwn (model X.prog X.w) X.A X.env xe → PSs (X.tr pn xe) body (tb W))
    (hsu : ∀ (a : Addr) (oez : Obj) (clsz : Value) (d : Option Addr) (pn : List (Addr × Obj)), L2N.Zn clsz d oez → (∃ vs, oez.data = .fields vs) → PSs (X.suite a ((a, oez) :: pn)) (b₀ :: suite) (ts a clsz d)) :
    PS X (.Try body [.ExceptHandler (some (.Name x np)) (some n) (b₀ :: suite) pos'] orelse [] pos) (fun D σ H => tb (wAs X.K c i ts Wout D) { D with nx := u D } σ H) := by
  refine ⟨fun pinsz s σ H D I hz => ?_⟩
  have ok := I.ok
  have hfrz : X.A.frames = some (X.env :: X.outer) := by rw [ok.frames, hs]
  refine wpAny_Try_except (wpAny_mono ((hbz (wAs X.K c i ts Wout D) (X.pn ++ pinsz) (fun e t1z => wpAny (model X.prog X.w) X.A (noteFrame e X.env) (fun _ t2z => wpAny (model X.prog X.w) X.A (setFlight e none) (fun _ t3z =>
    wpAny (model X.prog X.w) X.A (handleBy e X.env [.ExceptHandler (some (.Name x np)) (some n) (b₀ :: suite) pos']) (SP X pinsz D) X.xe t3z) X.xe t2z) X.xe t1z) (fun u sz' xxz => ?_) PassesOwn.looking).run [] s σ H { D with nx := u D } (I.toTry _) hz) (fun f s1z hspz => ?_) (fun e s1z hez => hez))
  · obtain ⟨a, B, sIz, pins', σ', H', clsz, d, rfl, J', nbz, upz, skyz, naz, osz, agz, b, hb1z, hyesz, hnoz⟩ := xxz
    have J : Inv X pinsz σ' H' sIz := J'.ofTry ok
    rw [show (X.tr (X.pn ++ pinsz) _).stack = X.env :: X.outer from hs] at skyz
    show wpAny (model X.prog X.w) X.A (noteFrame (.ref a) X.env) _ _ _; refine L2N.Sky.land L2N.Zn.steady hfrz hf skyz fun h3z fl3z up3z => ?_
    have J3 : Inv X pinsz σ' H' { sz' with heap := h3z } := J.landed nbz fl3z.1 (upz.trans up3z) osz agz
    obtain ⟨oe3z, vs3z, he3z, hz3z, hd3z⟩ := fl3z.there
    have nfrz := not_frame fl3z.2.2.1 he3z hd3z
    have nLz : a ≠ X.env.locals := fun zz => nfrz (List.mem_filterMap.mpr ⟨X.env, List.mem_cons_self, by rw [hf, zz]⟩)
    have nFz : a ∉ X.fs := fun hmz => by
      obtain ⟨e1z, m1z, q1z⟩ := List.mem_filterMap.mp hmz
      exact nfrz (List.mem_filterMap.mpr ⟨e1z, List.mem_cons_of_mem _ m1z, q1z⟩)
    have S3 := J3.suite he3z hd3z naz nLz nFz
    refine wpAny_handleBy_cons (codeAny_handlers_test ?_) (fun q => by cases q)
    have lt1z : PySem.W.Looks (model X.prog X.w) h3z (typeOf (.ref a)) clsz := fun _ _ _ _ k q => wpAny_typeOf_ref (k _ _ he3z) (by rw [hz3z.1]; exact q)
    have LM := PySem.W.exm_one (M := model X.prog X.w) (J3.kIn) lt1z hb1z
    have testz : ∀ {Q : Value → Shared → Prop} {E : Value → Shared → Prop}, Q c { sz' with heap := h3z } → wpAny (model X.prog X.w) (X.A.mark (some (.ref a))) (eval (.Name x np) X.env) Q E { sz' with heap := h3z } := fun {Q E} q => by
      obtain ⟨g1z, g2z, g3z | ⟨g3z, g4z, g5z⟩⟩ := hcz
      · exact ld_glob (X := X.suite a ((a, oe3z) :: (X.pn ++ pinsz))) S3 g1z g3z q g2z
      · exact ld_blt (X := X.suite a ((a, oe3z) :: (X.pn ++ pinsz))) S3 g1z g3z g4z q g5z g2z
    refine testz (LM.here ?_)
    cases b with
    | true =>
      refine codeAny_handlers_suite_as (HandSPX.lands_againZ fl3z fun h4z fl4z up4z => ?_)
      have J4 : Inv X pinsz σ' H' { sz' with heap := h4z } := J.landed nbz fl4z.1 ((upz.trans up3z).trans up4z) osz agz
      obtain ⟨oe4z, vs4z, he4z, hz4z, hd4z⟩ := fl4z.there
      have S4 := J4.suite he4z hd4z naz nLz nFz
      refine store_ok (X := X.suite a ((a, oe4z) :: (X.pn ++ pinsz))) (v := .ref a) S4 hN hi (.inl hln) rfl (fun s5z S5 => ?_) (.inr hln)
      refine wpAny_mono ((hsu a oe4z clsz d (X.pn ++ pinsz) hz4z ⟨_, hd4z⟩).run [] s5z _ H' _ S5 (hyesz rfl a naz)) (fun f s6z hspz => ?_) (fun _ _ zz => False.elim zz)
      have end_ : ∀ {σ6 : L2.St} {H6 : Hp} {Q : Shared → Prop}, Inv (X.suite a ((a, oe4z) :: (X.pn ++ pinsz))) [] σ6 H6 s6z → (∀ s7z, Inv X pinsz (σ6.set i none) H6 s7z → Q s7z) →
          wpAny (model X.prog X.w) X.A (do bindName X.env n .none; unbindBehindTheSuite X.env n pos') (fun _ s7z => Q s7z) X.xe s6z := fun {σ6 H6 Q} S6 hqz => gone_ok (S6.unsuite ok) hN hi hln hqz
      cases f with
      | ret v =>
        obtain ⟨v6z, σ6, H6, S6, r6z, q6z⟩ := hspz
        exact end_ S6 fun s7z J7 => ⟨_, _, _, J7, r6z, q6z⟩
      | next =>
        obtain ⟨σ6, H6, S6, q6z⟩ := hspz
        exact end_ S6 fun s7z J7 => ⟨_, _, J7, q6z⟩
      | brk =>
        obtain ⟨σ6, H6, S6, q6z⟩ := hspz
        exact end_ S6 fun s7z J7 => ⟨_, _, J7, q6z⟩
      | cont =>
        obtain ⟨σ6, H6, S6, q6z⟩ := hspz
        exact end_ S6 fun s7z J7 => ⟨_, _, J7, q6z⟩
    | false =>
      show wpAny _ X.A (handleBy (.ref a) X.env []) _ _ _; refine wpAny_handleBy_nil ?_
      obtain ⟨k1z, k2z, k3z, oez, vs, T, oTz, tsz', hez, hzz, hdz, h1z, hrz⟩ := id fl3z
      unfold PySem.passOn
      refine wpAny_bind (wpAny_field hez hdz h1z ?_)
      rw [if_neg (show ¬ ((Value.ref T == Value.none) = true) from by simp)]; have finz : wpAny (model X.prog X.w) X.A (setFlight (.ref a) X.env.frame) (fun _ s4z => wpAny (model X.prog X.w) X.A (throw (.ref a) : Sem Flow) (SP X pinsz D) X.xe s4z) X.xe { sz' with heap := h3z } := by
        rw [hf]
        exact HandSPX.setFlight_upZ fl3z fun h4z hh4z up4z => wpAny_throw (tk _ _ ⟨a, B, sIz, pinsz, σ', H', clsz, d, rfl, J, nbz, (upz.trans up3z).trans up4z, .inr (.inr (by rw [hs]; exact hh4z)), naz, osz, agz, hnoz rfl⟩)
      first
        | exact wpAny_bind (wpAny_pure (wpAny_bind finz))
        | exact wpAny_bind finz
  · cases f with
    | ret v =>
      obtain ⟨v, σ', H', J', r, q⟩ := hspz; exact ⟨v, σ', H', J'.ofTry ok, r, q⟩
    | next =>
      obtain ⟨σ', H', J', q⟩ := hspz
      exact ho.run pinsz s1z σ' H' D (J'.ofTry ok) q
    | brk =>
      obtain ⟨σ', H', J', q⟩ := hspz; exact ⟨σ', H', J'.ofTry ok, q⟩
    | cont =>
      obtain ⟨σ', H', J', q⟩ := hspz; exact ⟨σ', H', J'.ofTry ok, q⟩
/-- an exception in the air is noted by this frame, its flight stays told -/
theorem sky_held {M : Model} {A : Around} {E₁ : Value → Shared → Prop} {env : Env} {outer : List Env} {L a : Addr} {B : Heap} {Z : Obj → Prop} {s : Shared} {Q : Unit → Shared → Prop} (hZ : HandSPX.Steady Z) (hfrz : A.frames = some (env :: outer)) (hf : env.frame = some L)
    (yz : L2.Sky B (env :: outer) a Z L s.heap) (hQ : ∀ h', HandSPX.HeldZ B (env :: outer) a Z L h' → s.heap.UpToSlots h' → Q () { s with heap := h' }) : wpAny M A (noteFrame (.ref a) env) Q E₁ s := by
  rcases yz with ⟨b1z, b2z, b3z, oez, vs, b4z, b5z, b6z, b7z⟩ | flz | hhz
  · exact HandSPX.look_newZ hZ hfrz b3z hf b4z b1z b2z b6z b7z b5z hQ
  · exact HandSPX.looks_onZ hZ hfrz hf flz hQ
  · exact HandSPX.againZ hf hhz.2.2.2 (hQ s.heap hhz (Heap.UpToSlots.refl _))
/-- frames stay where objects that are no records stay so -/
theorem frames_keep {hz h' B : Heap} (k : ∀ b o, hz.get? b = some o → (∀ vs, o.data ≠ .fields vs) → ∃ oz', h'.get? b = some oz' ∧ ∀ vs, oz'.data ≠ .fields vs) : ∀ {l : List Env}, hz.FunFrames B l → h'.FunFrames B l
  | [], _ => trivial
  | e :: l, ⟨q1z, ⟨L, o, q2, q3, q4, q5⟩, q6z⟩ => by
    obtain ⟨oz', r1z, r2z⟩ := k L o q4 q5
    exact ⟨q1z, ⟨L, oz', q2, q3, r1z, r2z⟩, frames_keep k q6z⟩
/-- the state in which the name n is gone -/
theorem inv_gone {pinsz : List (Addr × Obj)} {σ : L2.St} {H : Hp} {s : Shared} {h' : Heap} {tk : Nat} {m : Str → Option Value} {v : Option Value} (I : Inv X pinsz σ H s) (hN : X.N.Nodup) (hi : X.N[i]? = some n) (hnz : s.heap.Ns X.env.locals m)
    (hlkz : ∀ (j : Nat) (yz : Str) (v : V), X.N[j]? = some yz → σ[j]? = some (some v) → Vis X.env.scope yz → ∃ u, L2.RelV v u ∧ Look X.env s.heap m yz u)
    (hn' : h'.Ns X.env.locals (fun yz => if yz = n then v else m yz)) (sb : Heap.SameBut X.env.locals s.heap h') : Inv X pinsz (σ.set i none) H { s with heap := h', toks := tk } := by
  have ne : ∀ b o, X.s_0.heap.get? b = some o → b ≠ X.env.locals := fun b o zz => Nat.ne_of_lt (Nat.lt_of_lt_of_le (Heap.lt_size zz) I.ok.above)
  refine ⟨I.ok, I.os, I.bare, ⟨fun b o z1z z2z z3z z4z => (sb.2 b (ne b o z1z)).trans (I.base.keep b o z1z z2z z3z z4z), fun b o z1z z2z z3z z4z => ?_, I.base.free, fun b o z1z z2z => ?_, I.base.tups, I.base.frzs, I.base.tbls⟩, ⟨_, hn', fun j yz w e1z e2z e3z => ?_⟩, fun yz c zz => ?_, I.free, I.freeC, fun p hpz => ?_, fun b obz zz => ?_, by simpa using I.len⟩
  · obtain ⟨slz, z5z⟩ := I.base.slot b o z1z z2z z3z z4z
    exact ⟨slz, (sb.2 b (ne b o z1z)).trans z5z⟩
  · obtain ⟨o1z, z3z⟩ := I.base.there b o z1z z2z
    exact ⟨o1z, (sb.2 b (ne b o z1z)).trans z3z⟩
  · have hjz : j ≠ i := fun zz => by
      subst zz
      by_cases hlt : j < σ.length
      · rw [List.getElem?_set_self hlt] at e2z
        cases e2z
      · rw [List.getElem?_eq_none (by simpa using hlt)] at e2z
        cases e2z
    rw [List.getElem?_set_ne (Ne.symm hjz)] at e2z
    obtain ⟨u, r, q⟩ := hlkz j yz w e1z e2z e3z
    refine ⟨u, r, ?_⟩
    rcases q with ⟨k, zz⟩ | ⟨k, c, zz, z2z⟩
    · exact .inl ⟨k, (if_neg (fun e => hjz (nodup_ix hN e1z (e ▸ hi)) : yz ≠ n)).trans zz⟩
    · exact .inr ⟨k, c, zz, z2z.sameBut sb (I.cne yz c zz)⟩
  · obtain ⟨w, z2z⟩ := I.cell yz c zz
    exact ⟨w, z2z.sameBut sb (I.cne yz c zz)⟩
  · obtain ⟨p1z, p2z, p3z, p4z, p5z⟩ := I.pin p hpz
    exact ⟨(sb.2 p.1 p3z).trans p1z, p2z, p3z, p4z, p5z⟩
  · refine (I.hok b obz zz).stay (fun c w hcz q => (sb.2 c ?_).trans q) (fun _ q => q) fun _ _ q => q
    intro yz
    subst yz
    rcases hcz with hcz | hcz
    · rw [← hcz, I.free] at zz
      cases zz
    · rw [I.free] at hcz
      cases hcz
/-- the context of an except suite that may raise: what it lets out is told as an exception in the air -/
abbrev sX (X : Cx) (a : Addr) (pn : List (Addr × Obj)) (W : WX) : Cx := { L2H.suiteX X a pn with xe := fun u sz' => L2.XE (L2H.suiteX X a pn) W u sz' }
theorem ps_try_asX (hs : X.stack = X.env :: X.outer) (hf : X.env.frame = some X.env.locals) (hN : X.N.Nodup) (hi : X.N[i]? = some n) (hln : X.env.kindOf n = some .local) (hcz : Names X x c) (hpa : ∀ hdz : Option Value, PassesOwnAt (model X.prog X.w) (X.A.mark hdz) X.A X.env X.xe) (tk : L2.Takes X Wout)
    (hbz : ∀ (W : WX) (pn : List (Addr × Obj)) (xe : Value → Shared → Prop), L2N.Takes (X.tr pn xe) W → PassesOwn (model X.prog X.w) X.A X.env xe → PSs (X.tr pn xe) body (tb W))
    (hsu : ∀ (a : Addr) (oez : Obj) (clsz : Value) (d : Option Addr) (pn : List (Addr × Obj)), L2N.Zn clsz d oez → (∃ vs, oez.data = .fields vs) → L2.Takes (sX X a ((a, oez) :: pn) fun clsz d σ H => Wout clsz d (σ.set i none) H) (fun clsz d σ H => Wout clsz d (σ.set i none) H) →
      L2H.HotC (sX X a ((a, oez) :: pn) fun clsz d σ H => Wout clsz d (σ.set i none) H) → PSs (sX X a ((a, oez) :: pn) fun clsz d σ H => Wout clsz d (σ.set i none) H) (b₀ :: suite) (ts a clsz d)) : PS X (.Try body [.ExceptHandler (some (.Name x np)) (some n) (b₀ :: suite) pos'] [] [] pos) (fun D σ H => tb (wAs X.K c i ts Wout D) D σ H) := by
  refine ⟨fun pinsz s σ H D I hz => ?_⟩
  have ok := I.ok
  have hfrz : X.A.frames = some (X.env :: X.outer) := by rw [ok.frames, hs]
  refine wpAny_Try_except (wpAny_mono ((hbz (wAs X.K c i ts Wout D) (X.pn ++ pinsz) (fun e t1z => wpAny (model X.prog X.w) X.A (noteFrame e X.env) (fun _ t2z => wpAny (model X.prog X.w) X.A (setFlight e none) (fun _ t3z =>
    wpAny (model X.prog X.w) X.A (handleBy e X.env [.ExceptHandler (some (.Name x np)) (some n) (b₀ :: suite) pos']) (SP X pinsz D) X.xe t3z) X.xe t2z) X.xe t1z) (fun u sz' xxz => ?_) PassesOwn.looking).run [] s σ H D (I.toTry _) hz) (fun f s1z hspz => ?_) (fun e s1z hez => hez))
  · obtain ⟨a, B, sIz, pins', σ', H', clsz, d, rfl, J', nbz, upz, skyz, naz, osz, agz, b, hb1z, hyesz, hnoz⟩ := xxz
    have J : Inv X pinsz σ' H' sIz := J'.ofTry ok
    rw [show (X.tr (X.pn ++ pinsz) _).stack = X.env :: X.outer from hs] at skyz
    show wpAny (model X.prog X.w) X.A (noteFrame (.ref a) X.env) _ _ _; refine L2N.Sky.land L2N.Zn.steady hfrz hf skyz fun h3z fl3z up3z => ?_
    have J3 : Inv X pinsz σ' H' { sz' with heap := h3z } := J.landed nbz fl3z.1 (upz.trans up3z) osz agz
    obtain ⟨oe3z, vs3z, he3z, hz3z, hd3z⟩ := fl3z.there
    have nfrz := not_frame fl3z.2.2.1 he3z hd3z
    have nLz : a ≠ X.env.locals := fun zz => nfrz (List.mem_filterMap.mpr ⟨X.env, List.mem_cons_self, by rw [hf, zz]⟩)
    have nFz : a ∉ X.fs := fun hmz => by
      obtain ⟨e1z, m1z, q1z⟩ := List.mem_filterMap.mp hmz
      exact nfrz (List.mem_filterMap.mpr ⟨e1z, List.mem_cons_of_mem _ m1z, q1z⟩)
    have S3 := J3.suite he3z hd3z naz nLz nFz
    refine wpAny_handleBy_cons (codeAny_handlers_test ?_) (fun q => by cases q)
    have lt1z : PySem.W.Looks (model X.prog X.w) h3z (typeOf (.ref a)) clsz := fun _ _ _ _ k q => wpAny_typeOf_ref (k _ _ he3z) (by rw [hz3z.1]; exact q)
    have LM := PySem.W.exm_one (M := model X.prog X.w) (J3.kIn) lt1z hb1z
    have testz : ∀ {Q : Value → Shared → Prop} {E : Value → Shared → Prop}, Q c { sz' with heap := h3z } → wpAny (model X.prog X.w) (X.A.mark (some (.ref a))) (eval (.Name x np) X.env) Q E { sz' with heap := h3z } := fun {Q E} q => by
      obtain ⟨g1z, g2z, g3z | ⟨g3z, g4z, g5z⟩⟩ := hcz
      · exact ld_glob (X := X.suite a ((a, oe3z) :: (X.pn ++ pinsz))) S3 g1z g3z q g2z
      · exact ld_blt (X := X.suite a ((a, oe3z) :: (X.pn ++ pinsz))) S3 g1z g3z g4z q g5z g2z
    refine testz (LM.here ?_)
    cases b with
    | true =>
      refine codeAny_handlers_suite_as (HandSPX.lands_againZ fl3z fun h4z fl4z up4z => ?_)
      have J4 : Inv X pinsz σ' H' { sz' with heap := h4z } := J.landed nbz fl4z.1 ((upz.trans up3z).trans up4z) osz agz
      obtain ⟨oe4z, vs4z, he4z, hz4z, hd4z⟩ := fl4z.there
      have S4 := J4.suite he4z hd4z naz nLz nFz
      refine store_ok (X := X.suite a ((a, oe4z) :: (X.pn ++ pinsz))) (v := .ref a) S4 hN hi (.inl hln) rfl (fun s5z S5 => ?_) (.inr hln)
      have tkSz : L2.Takes (sX X a ((a, oe4z) :: (X.pn ++ pinsz)) fun clsz d σ H => Wout clsz d (σ.set i none) H) (fun clsz d σ H => Wout clsz d (σ.set i none) H) := fun u2z s2 x2z => by
        obtain ⟨a2z, B2, sI2z, pn2z, σ2, H2, cls2z, d2z, e2z, I2, r2z⟩ := x2z
        exact ⟨a2z, B2, sI2z, pn2z, σ2, H2, cls2z, d2z, e2z, Inv.unwish (X := L2H.suiteX X a ((a, oe4z) :: (X.pn ++ pinsz))) (E := fun u sz' => L2.XE (L2H.suiteX X a ((a, oe4z) :: (X.pn ++ pinsz))) (fun clsz d σ H => Wout clsz d (σ.set i none) H) u sz') I2, r2z⟩
      have hotz : L2H.HotC (sX X a ((a, oe4z) :: (X.pn ++ pinsz)) fun clsz d σ H => Wout clsz d (σ.set i none) H) := ⟨(a, oe4z), ⟨rfl, vs4z, hd4z, hz4z.2.2 vs4z hd4z⟩, List.mem_cons_self⟩
      refine wpAny_mono ((hsu a oe4z clsz d (X.pn ++ pinsz) hz4z ⟨_, hd4z⟩ tkSz hotz).run [] s5z _ H' _ (Inv.wish (X := L2H.suiteX X a ((a, oe4z) :: (X.pn ++ pinsz))) (L2H.suiteX_of S5) _) (hyesz rfl a naz)) (fun f s6z hspz => ?_) (fun x2z s6z xxz => ?_)
      · have end_ : ∀ {σ6 : L2.St} {H6 : Hp} {Q : Shared → Prop}, Inv (sX X a ((a, oe4z) :: (X.pn ++ pinsz)) fun clsz d σ H => Wout clsz d (σ.set i none) H) [] σ6 H6 s6z → (∀ s7z, Inv X pinsz (σ6.set i none) H6 s7z → Q s7z) →
            wpAny (model X.prog X.w) X.A (do bindName X.env n .none; unbindBehindTheSuite X.env n pos') (fun _ s7z => Q s7z) X.xe s6z := fun {σ6 H6 Q} S6 hqz => gone_ok (L2H.unsuiteX (Inv.unwish (X := L2H.suiteX X a ((a, oe4z) :: (X.pn ++ pinsz))) S6) ok) hN hi hln hqz
        cases f with
        | ret v =>
          obtain ⟨v6z, σ6, H6, S6, r6z, q6z⟩ := hspz
          exact end_ S6 fun s7z J7 => ⟨_, _, _, J7, r6z, q6z⟩
        | next =>
          obtain ⟨σ6, H6, S6, q6z⟩ := hspz
          exact end_ S6 fun s7z J7 => ⟨_, _, J7, q6z⟩
        | brk =>
          obtain ⟨σ6, H6, S6, q6z⟩ := hspz
          exact end_ S6 fun s7z J7 => ⟨_, _, J7, q6z⟩
        | cont =>
          obtain ⟨σ6, H6, S6, q6z⟩ := hspz
          exact end_ S6 fun s7z J7 => ⟨_, _, J7, q6z⟩
      · -- the suite's own exception
        obtain ⟨a2z, B2, sI2z, pn2z, σ2, H2, cls2z, d2z, rfl, I2, nb2z, up2z, sky2z, na2z, os2z, ag2z, w2z⟩ := xxz
        have K2 : Inv X pinsz σ2 H2 sI2z := L2H.unsuiteX I2 ok
        have nb3z : ∀ b o, sI2z.heap.get? b = some o → b ∉ frs (X.env :: X.outer) → B2.get? b = some o := fun b o z1z z2z => nb2z b o z1z (by rw [show (L2H.suiteX X a ((a, oe4z) :: (X.pn ++ pinsz))).stack = X.env :: X.outer from hs]; exact z2z)
        have sky3z : L2.Sky B2 (X.env :: X.outer) a2z (L2.Zc cls2z d2z) X.env.locals s6z.heap := by rw [← hs]; exact sky2z
        have hfr2z : (X.A.mark (some (.ref a))).frames = some (X.env :: X.outer) := hfrz
        refine sky_held L2.Zc.steady hfr2z hf sky3z fun h7z hh7z up7z => ?_
        have up27 := up2z.trans up7z
        have Lin : X.env.locals ∈ frs (X.env :: X.outer) := List.mem_filterMap.mpr ⟨X.env, List.mem_cons_self, hf⟩
        obtain ⟨m, hnz, hlkz⟩ := K2.loc
        obtain ⟨oLz, esz, epz, n1z, n2z, n3z, n4z⟩ := id hnz
        have nfLz : ∀ vs, oLz.data ≠ .fields vs := fun vs zz => by rw [n2z] at zz; cases zz
        obtain ⟨slLz, n5z⟩ := up27 _ oLz n1z nfLz
        have hn7z : h7z.Ns X.env.locals m := ⟨_, esz, epz, n5z, n2z, n3z, n4z⟩
        have hclsz : (X.env.scope.kind == .class || (X.env.scope.kind == .module && X.env.locals != X.env.globals)) = false := by rw [ok.kind]; rfl
        refine wpAny_nameGoes_keeps hln hn7z hclsz fun h8z v8z hn8z sb8z => ?_
        obtain ⟨o8z, es8z, ep8z, m1z, m2z, m3z, m4z⟩ := id hn8z
        have nf8z : ∀ vs, o8z.data ≠ .fields vs := fun vs zz => by rw [m2z] at zz; cases zz
        obtain ⟨c1z, c2z, c3z, oez, vs, T, oTz, tsz', t1z, t2z, t3z, t4z, t5z, t6z, t7z, t8z, t9z⟩ := id hh7z
        have BL : B2.get? X.env.locals = none := by
          obtain ⟨zz, _⟩ := c3z.mem Lin
          exact zz
        have a2L : a2z ≠ X.env.locals := fun zz => by
          rw [zz, n5z] at t1z
          cases t1z
          exact nfLz _ t3z
        have TL : T ≠ X.env.locals := fun zz => by
          rw [zz, n5z] at t7z
          cases t7z
          exact nfLz _ t8z
        have hh8z : HandSPX.HeldZ B2 (X.env :: X.outer) a2z (L2.Zc cls2z d2z) X.env.locals h8z := by
          refine ⟨fun b o zz => ?_, c2z, frames_keep (fun b o z1z z2z => ?_) c3z, oez, vs, T, oTz, tsz', (sb8z.2 _ a2L).trans t1z, t2z, t3z, t4z, t5z, t6z, (sb8z.2 _ TL).trans t7z, t8z, t9z⟩
          · exact (sb8z.2 b (fun yz => by rw [yz, BL] at zz; cases zz)).trans (c1z b o zz)
          · by_cases hbz : b = X.env.locals
            · subst hbz
              exact ⟨o8z, m1z, nf8z⟩
            · exact ⟨o, (sb8z.2 b hbz).trans z1z, z2z⟩
        -- the state without it, the name gone
        have g8z : (sI2z.heap.update X.env.locals (fun _ => o8z)).get? X.env.locals = some o8z := Heap.get?_update_self _ n1z (by cases o8z; cases m2z; rfl)
        have K8 := inv_gone (h' := sI2z.heap.update X.env.locals (fun _ => o8z)) (tk := sI2z.toks) (v := v8z) K2 hN hi hnz hlkz ⟨o8z, es8z, ep8z, g8z, m2z, m3z, m4z⟩ (Heap.SameBut.update _ _ _)
        have up8z : (sI2z.heap.update X.env.locals (fun _ => o8z)).UpToSlots h8z := fun b o z1z z2z => by
          by_cases hbz : b = X.env.locals
          · subst hbz
            rw [g8z] at z1z
            cases z1z
            exact ⟨o8z.slots, m1z⟩
          · rw [Heap.get?_update_other _ _ (Ne.symm hbz)] at z1z
            obtain ⟨slz, z3z⟩ := up27 b o z1z z2z
            exact ⟨slz, (sb8z.2 b hbz).trans z3z⟩
        unfold PySem.passOn
        refine wpAny_bind (wpAny_field ((sb8z.2 _ a2L).trans t1z) t3z t4z ?_)
        rw [if_neg (show ¬ ((Value.ref T == Value.none) = true) from by simp)]; have finz : wpAny (model X.prog X.w) (X.A.mark (some (.ref a))) (setFlight (.ref a2z) X.env.frame) (fun _ s4z => wpAny (model X.prog X.w) (X.A.mark (some (.ref a))) (throw (.ref a2z) : Sem Flow) (fun _ _ => False)
            (notedBy (model X.prog X.w) (X.A.mark (some (.ref a))) X.env (cameBackBy (model X.prog X.w) X.A X.env X.xe)) s4z) (notedBy (model X.prog X.w) (X.A.mark (some (.ref a))) X.env (cameBackBy (model X.prog X.w) X.A X.env X.xe)) { s6z with heap := h8z, toks := s6z.toks + 1 } := by
          rw [hf]
          refine HandSPX.setFlight_anyZ hh8z.1 hh8z.2.2.1 hh8z.2.2.2 fun h9z k1z k2z k3z k4z => wpAny_throw (hpa _ _ _ (tk _ _ ?_))
          refine ⟨a2z, B2, { sI2z with heap := sI2z.heap.update X.env.locals (fun _ => o8z) }, pinsz, σ2.set i none, H2, cls2z, d2z, rfl, K8, fun b o z1z z2z => ?_, up8z.trans k4z, .inr (.inr (by rw [hs]; exact ⟨k1z, hh8z.2.1, k2z, k3z⟩)), na2z, os2z, ag2z, w2z⟩
          have hbz : b ≠ X.env.locals := fun yz => z2z (by rw [yz, hs]; exact Lin)
          have z1z : (sI2z.heap.update X.env.locals (fun _ => o8z)).get? b = some o := z1z
          rw [Heap.get?_update_other _ _ (Ne.symm hbz)] at z1z
          exact nb3z b o z1z (by rw [← hs]; exact z2z)
        first
          | exact wpAny_bind (wpAny_pure (wpAny_bind finz))
          | exact wpAny_bind finz
    | false =>
      show wpAny _ X.A (handleBy (.ref a) X.env []) _ _ _; refine wpAny_handleBy_nil ?_
      obtain ⟨k1z, k2z, k3z, oez, vs, T, oTz, tsz', hez, hzz, hdz, h1z, hrz⟩ := id fl3z
      unfold PySem.passOn
      refine wpAny_bind (wpAny_field hez hdz h1z ?_)
      rw [if_neg (show ¬ ((Value.ref T == Value.none) = true) from by simp)]; have finz : wpAny (model X.prog X.w) X.A (setFlight (.ref a) X.env.frame) (fun _ s4z => wpAny (model X.prog X.w) X.A (throw (.ref a) : Sem Flow) (SP X pinsz D) X.xe s4z) X.xe { sz' with heap := h3z } := by
        rw [hf]
        exact HandSPX.setFlight_upZ (L2H.flyingZ_imp (fun o zz => zz.zc) fl3z) fun h4z hh4z up4z => wpAny_throw (tk _ _ ⟨a, B, sIz, pinsz, σ', H', clsz, d, rfl, J, nbz, (upz.trans up3z).trans up4z, .inr (.inr (by rw [hs]; exact hh4z)), naz, osz, agz, hnoz rfl⟩)
      first
        | exact wpAny_bind (wpAny_pure (wpAny_bind finz))
        | exact wpAny_bind finz
  · cases f with
    | ret v =>
      obtain ⟨v, σ', H', J', r, q⟩ := hspz; exact ⟨v, σ', H', J'.ofTry ok, r, q⟩
    | next =>
      obtain ⟨σ', H', J', q⟩ := hspz; exact wpAny_execs_nil ⟨σ', H', J'.ofTry ok, q⟩
    | brk =>
      obtain ⟨σ', H', J', q⟩ := hspz; exact ⟨σ', H', J'.ofTry ok, q⟩
    | cont =>
      obtain ⟨σ', H', J', q⟩ := hspz; exact ⟨σ', H', J'.ofTry ok, q⟩
end
end Tl
namespace Tl
open PySem PySem.Spec PyProof.Rows L2 PySem.SeqAt
section
variable {A : Around} {E : Value → Shared → Prop} {s : Shared} {prog : Program} {w : World}
/-- a tuple's walk ends where an exception is handled -/
theorem tup_end_hot {it tz x1 : Addr} {i : Nat} {items : Array Value} {Q : Option Value → Shared → Prop} (hot : HotX.HotAt A x1 s.heap) (hit : s.heap.IsTupleIter it tz i) (ht : s.heap.IsTuple tz items) (hx : items[i]? = none) (hne : x1 ≠ it)
    (hQz : ∀ h', Heap.ExtBut it s.heap h' → Q none { s with heap := h' }) : wpAny (model prog w) A (pyNext (.ref it)) Q E s := by
  obtain ⟨o, hoz, hcz, hdz⟩ := id hit
  obtain ⟨olz, holz, _, nlz, hdlz⟩ := ht
  obtain ⟨hhz, o1z, vs1z, h1z, d1z, c1z⟩ := hot
  unfold pyNext
  refine wpAny_bind (wpAny_attempt (wpAny_callSpecial?_slot (name := Str.ofString "__next__") hit.typeIs F.slot_tuple_iterator_next (wpAny_call_entry F.slot_tuple_iterator_next hit.typeIs F.entry_tuple_iterator_next ?_ (F.args_tuple_iterator_next_1 _))))
  show wpAny _ _ (field (.ref it) 0 >>= _) _ _ s; refine wpAny_bind (wpAny_field hoz hdz (x := .ref tz) rfl ?_)
  show wpAny _ _ (if (Value.ref tz == Value.none) = true then _ else _) _ _ s
  rw [if_neg (show ¬ ((Value.ref tz == Value.none) = true) from Bool.false_ne_true)]
  show wpAny _ _ (field (.ref it) 1 >>= _) _ _ s; refine wpAny_bind (wpAny_field hoz hdz (x := .int i 0) rfl ?_)
  show wpAny _ _ (seqItems? (.ref tz) >>= _) _ _ s
  refine wpAny_bind (wpAny_seqItems holz hdlz ?_)
  simp only [Int.toNat_natCast, hx]; refine wpAny_bind (wpAny_rule (wpAny_bind (wpAny_setField hoz hdz (by simp) ?_)))
  show wpAny _ _ (newExc (.type "StopIteration") [] >>= _) _ _ _; refine wpAny_bind ?_
  simp only [newExc, newTuple]
  refine wpAny_bind (wpAny_newObj_type ?_ (by size_fits)); refine wpAny_bind (m := firstArgMember _ _) (wpAny_of_eq (a := Value.none) (by first | rfl | (simp only [firstArgMember]; rfl)) ?_)
  refine wpAny_newObj_type ?_ (by size_fits); have h2z := (Heap.get?_update_ne s.heap x1 it (Obj.mapFields (·.setIfInBounds 0 Value.none)) hne).trans h1z
  refine HotX.raiseNew_hot ⟨hhz, o1z, vs1z, Heap.get?_push_of_some _ (Heap.get?_push_of_some _ h2z), d1z, c1z⟩ (Nat.ne_of_lt (Heap.lt_size (Heap.get?_push_of_some _ h2z))) (Heap.get?_push_size _ rfl) rfl (by first | (simp; done) | (simp; omega) | (simp only [Array.size_append]; simp; omega)) ?_
  refine wpAny_bind (wpAny_isInstance (T := "StopIteration") (b := true) ⟨_, Heap.get?_update_self _ (Heap.get?_push_size _ rfl) rfl, rfl⟩ isSubtype_stop ?_); refine wpAny_pure (hQz _ fun b o z1z z2z => ?_)
  have z3z := (Heap.get?_update_ne s.heap b it (Obj.mapFields (·.setIfInBounds 0 Value.none)) z1z).trans z2z
  rw [Heap.get?_update_other _ _ (Nat.ne_of_gt (Heap.lt_size (Heap.get?_push_of_some _ z3z)))]
  exact Heap.get?_push_of_some _ (Heap.get?_push_of_some _ z3z)
def Quiet (hz : Heap) (x1 : Addr) : Prop := ∃ (o : Obj) (vs : Array Value), hz.get? x1 = some o ∧ o.data = .fields vs ∧ vs[2]? = some .none
theorem walks_hot {x1 I ax : Addr} (hhz : A.handled = some (.ref x1)) (hne : ax ≠ I) (hn1 : x1 ≠ I) (items : Array Value) :
    Walks prog w A I [I, ax, x1] [I] items.size (fun i v => items[i]? = some v) (fun i hz => hz.IsTupleIter I ax i ∧ hz.IsTuple ax items ∧ Quiet hz x1) where
  sub := fun b hbz => by simp at hbz; simp [hbz]
  frame := fun _ _ _ st hkz => ⟨st.1.at fun o e => hkz I (by simp) o e, st.2.1.at fun o e => hkz ax (by simp) o e, by
    obtain ⟨o, vs, e1z, e2z, e3z⟩ := st.2.2
    exact ⟨o, vs, hkz x1 (by simp) o e1z, e2z, e3z⟩⟩
  item := fun i s Q E hiz st hQz => by
    obtain ⟨st1z, st2z, o, vs, e1z, e2z, e3z⟩ := st
    refine wpAny_pyNext_tuple_item st1z st2z (x := items[i]) (by simp [hiz]) fun h' hitz' hsz' => ?_
    exact hQz _ h' s.toks (by simp [hiz]) ⟨hitz', st2z.extBut hsz'.extBut hne, o, vs, hsz'.extBut x1 o hn1 e1z, e2z, e3z⟩ fun b o hbz e => hsz'.extBut b o (fun hz => hbz (by simp [hz])) e
  done := fun s Q E st hQz => by
    obtain ⟨st1z, st2z, o, vs, e1z, e2z, e3z⟩ := st
    exact tup_end_hot ⟨hhz, o, vs, e1z, e2z, e3z⟩ st1z st2z (by simp) hn1 fun h' hez' => hQz h' s.toks fun b o hbz e => hez' b o (fun hz => hbz (by simp [hz])) e
  self := fun _ _ _ _ st hQz => wpAny_pyIter_tupleiter st.1 hQz
theorem max_hot {a b : Int} {tz u : Tok} {x1 : Addr} {Q : Value → Shared → Prop} (hhz : A.handled = some (.ref x1)) (hq : Quiet s.heap x1)
    (hz : ∀ h' tk, (∀ c o, s.heap.get? c = some o → h'.get? c = some o) → Q (if b > a then .int b u else .int a tz) { s with heap := h', toks := tk }) :
    wpAny (model prog w) A (call (.builtin "max") [.int a tz, .int b u]) Q E s := by
  obtain ⟨o1z, vs1z, q1z, q2z, q3z⟩ := hq
  have lt1z := Heap.lt_size q1z
  have hTz : (s.heap.push { cls := .type "tuple", data := .seq #[.int a tz, .int b u] }).IsTuple s.heap.objs.size (intItems #[(a, tz), (b, u)]) := ⟨_, Heap.get?_push_size _ rfl, rfl, 0, by simp [intItems]⟩
  refine call_max_two (wpAny_pyIter_tuple hTz ?_)
  have hszz : (s.heap.push { cls := .type "tuple", data := .seq #[.int a tz, .int b u] }).objs.size = s.heap.objs.size + 1 := Heap.size_push ..
  have q4z : (s.heap.push { cls := .type "tuple", data := .seq #[.int a tz, .int b u] }).get? x1 = some o1z := Heap.get?_push_of_some _ q1z
  refine ⟨_, [_, s.heap.objs.size, x1], [_], _, _, _, _, rfl, walks_hot (A := A.in1) hhz (by rw [hszz]; exact Nat.ne_of_lt (Nat.lt_succ_self _)) (by rw [hszz]; exact Nat.ne_of_lt (Nat.lt_succ_of_lt lt1z)) (intItems #[(a, tz), (b, u)]),
    ⟨⟨_, Heap.get?_push_size _ rfl, rfl, rfl⟩, hTz.push _, o1z, vs1z, Heap.get?_push_of_some _ q4z, q2z, q3z⟩, fun c hcz => ?_, by simp [intItems], CmpOf.ints_gt (numAt #[(a, tz), (b, u)]) (fun _ _ => intItems_at), fun v h' tk hPz hkz => ?_⟩
  · show c < ((s.heap.push _).push _).objs.size; rw [Heap.size_push, hszz]
    rw [hszz] at hcz
    simp only [List.mem_cons, List.not_mem_nil, or_false] at hcz
    rcases hcz with rfl | rfl | rfl
    · exact Nat.lt_succ_self _
    · exact Nat.lt_succ_of_lt (Nat.lt_succ_self (_ : Nat))
    · exact Nat.lt_succ_of_lt (Nat.lt_succ_of_lt lt1z)
  · have holdz : ∀ c o, s.heap.get? c = some o → h'.get? c = some o := fun c o e => by
      refine hkz c o (fun hmz => ?_) (Heap.get?_push_of_some _ (Heap.get?_push_of_some _ e))
      have l2z := Heap.lt_size e
      rw [hszz] at hmz
      simp only [List.mem_cons, List.not_mem_nil, or_false] at hmz
      subst hmz
      exact Nat.lt_irrefl _ (Nat.lt_of_succ_lt l2z)
    have hvz : v = if b > a then Value.int b u else Value.int a tz := by
      have hPz' : (intItems #[(a, tz), (b, u)])[argBest (fun i j => decide (numAt #[(a, tz), (b, u)] i > numAt #[(a, tz), (b, u)] j)) 1]? = some v := by
        rw [show (1 : Nat) = (intItems #[(a, tz), (b, u)]).size - 1 by simp [intItems]]
        exact hPz
      by_cases hba : b > a
      · rw [show argBest (fun i j => decide (numAt #[(a, tz), (b, u)] i > numAt #[(a, tz), (b, u)] j)) 1 = 1 by simp [argBest, numAt, hba]] at hPz'
        simpa [intItems, hba] using hPz'.symm
      · rw [show argBest (fun i j => decide (numAt #[(a, tz), (b, u)] i > numAt #[(a, tz), (b, u)] j)) 1 = 0 by simp [argBest, numAt, hba]] at hPz'
        simpa [intItems, hba] using hPz'.symm
    rw [hvz]
    exact hz h' tk holdz
end
section
variable {X : Cx}
/-- max(m, n) in an except suite -/
theorem call_maxH (hot : L2H.HotC X) : CallR X (.builtin "max") (fun xs H Q => ∃ i j, xs = [.int i, .int j] ∧ Q (.int (if j > i then j else i)) H) := by
  intro pinsz s σ H xs us Q I r hz
  obtain ⟨i, j, rfl, q⟩ := hz
  obtain ⟨u, v, rfl, ⟨tz, rfl⟩, ⟨t', rfl⟩⟩ := vals2 r
  obtain ⟨p, ⟨hhz, vs, z1z, z2z⟩, hpz⟩ := hot
  have P1 := (I.pin p (List.mem_append_left _ hpz)).1
  refine max_hot hhz ⟨p.2, vs, P1, z1z, z2z⟩ fun h' tk k => ⟨_, H, I.kept k, ?_, q⟩
  by_cases hj : j > i
  · rw [if_pos hj, if_pos hj]
    exact ⟨_, rfl⟩
  · rw [if_neg hj, if_neg hj]
    exact ⟨_, rfl⟩
/-- max(list, default=d), whole numbers -/
def rMaxD (K : PySem.W.Frag) : List V → List V → Hp → VK → Prop := fun vs zsz H Q => ∃ (a : Addr) (nsz : List Int) (d : Int), vs = [.ref a] ∧ zsz = [.int d] ∧ SqL K H a (nsz.map V.int) ∧ (nsz = [] → Q (.int d) H) ∧ ∀ m, m ∈ nsz → (∀ yz ∈ nsz, yz ≤ m) → Q (.int m) H
theorem maxOf_ok : ∀ (ysz : List Int) (yz : Int), PySem.W.maxOf yz ysz ∈ yz :: ysz ∧ ∀ zz ∈ yz :: ysz, zz ≤ PySem.W.maxOf yz ysz
  | [], yz => ⟨List.mem_cons_self, fun zz hzz => by
    simp only [List.mem_cons, List.not_mem_nil, or_false] at hzz
    subst hzz
    exact Int.le_refl _⟩
  | x :: ysz, yz => by
    have e : PySem.W.maxOf yz (x :: ysz) = PySem.W.maxOf (if yz < x then x else yz) ysz := by
      show List.foldl _ (if decide (yz < x) = true then x else yz) ysz = List.foldl _ (if yz < x then x else yz) ysz
      by_cases hz : yz < x <;> simp [hz]
    rw [e]
    obtain ⟨h1z, h2z⟩ := maxOf_ok ysz (if yz < x then x else yz)
    by_cases hz : yz < x
    · rw [if_pos hz] at h1z h2z ⊢
      refine ⟨List.mem_cons_of_mem _ h1z, fun zz hzz => ?_⟩
      rcases List.mem_cons.mp hzz with rfl | hzz
      · exact Int.le_trans (Int.le_of_lt hz) (h2z x List.mem_cons_self)
      · exact h2z zz hzz
    · rw [if_neg hz] at h1z h2z ⊢
      refine ⟨?_, fun zz hzz => ?_⟩
      · rcases List.mem_cons.mp h1z with h1z | h1z
        · rw [h1z]
          exact List.mem_cons_self
        · exact List.mem_cons_of_mem _ (List.mem_cons_of_mem _ h1z)
      · rcases List.mem_cons.mp hzz with rfl | hzz
        · exact h2z zz List.mem_cons_self
        · rcases List.mem_cons.mp hzz with rfl | hzz
          · exact Int.le_trans (Int.not_lt.mp hz) (h2z yz List.mem_cons_self)
          · exact h2z zz (List.mem_cons_of_mem _ hzz)
theorem cr_maxD (hcz : X.calm = true) (hu : X.A.units + 1 < cLine) : CallRK X (.builtin "max") [Str.ofString "default"] (rMaxD X.K) := by
  intro pinsz s σ H xs zsz us wsz Q I r rzz hz
  obtain ⟨a, nsz, d, rfl, rfl, hsz, h0z, h1z⟩ := hz
  obtain ⟨itsz, rvz, hlz, _⟩ := I.list hsz
  obtain ⟨u, rfl, tz, rfl⟩ := vals1 rzz
  rw [Vals.ref1 r]
  have holdz : PySem.W.HoldAll s.heap itsz nsz := PySem.W.HoldAll.of_ints rvz.ints
  show wpAny _ _ (call (.builtin "max") [.ref a] [(Str.ofString "default", .int d tz)]) _ _ _
  refine PySem.W.max_list_datum_default (α := Int) (I.ok.hd hcz) hlz.isList holdz (by show X.A.units + 1 + 0 < cLine; exact hu) (fun e h' tk k => ⟨.int d, H, I.kept k, ⟨_, rfl⟩, h0z e⟩) fun yz ysz i v h' tk e hiz hvz k => ?_
  subst e
  obtain ⟨m1z, m2z⟩ := maxOf_ok ysz yz
  refine ⟨.int (PySem.W.maxOf yz ysz), H, I.kept k, ?_, h1z _ m1z m2z⟩
  obtain ⟨bsz, r2z⟩ := hvz
  have r3z : Reads h' v (.int (PySem.W.maxOf yz ysz)) bsz := r2z
  cases r3z
  exact ⟨_, rfl⟩
end
end Tl
namespace Tl
open PySem L2 PySem.Spec PyProof.Rows
/-- where an except suite stands the exception is handled -/
theorem hot_of {X : Cx} {a : Addr} {oe : Obj} {cls : Value} {d : Option Addr} {pn : List (Addr × Obj)} (hzc : L2N.Zn cls d oe) (hf : ∃ vs, oe.data = .fields vs) : L2H.HotC (X.suite a ((a, oe) :: pn)) := by
  obtain ⟨vs, hdz⟩ := hf
  exact ⟨(a, oe), ⟨rfl, vs, hdz, hzc.2.2 vs hdz⟩, List.mem_cons_self⟩
/-- the instances of the exception class C tell their field n -/
structure FldOk (K : PySem.W.Frag) (C : Addr) (n : Str) : Prop where
  xf : XfC K C
  no : PySem.W.findIn K (.ref C) n = some none
def tXg (K : PySem.W.Frag) (a : Addr) (cls : Value) (d : Option Addr) (n : Str) (te : TE) : TE := fun σ H Q => te σ H fun x H1 => x = .ref a ∧ ∃ C, cls = .ref C ∧ FldOk K C n ∧ ∃ (ddz : Addr) (fsz : List (Str × V)) (v : V), d = some ddz ∧ H1 ddz = some (.xd fsz) ∧ fsz.lookup n = some v ∧ Q v H1
/-- e.n of the exception that is caught, in any context that knows where it stands -/
theorem pe_field {Y : Cx} {a : Addr} {oe : Obj} {cls : Value} {d : Option Addr} {e : Expr} {te : TE} {pos : Pos} {n : Str} (hp : (a, oe) ∈ Y.pn)
    (hzc : Zc cls d oe) (hf : ∃ vs, oe.data = .fields vs) (he : PE Y e te) (hb : attributeBase e n Y.env (eval e Y.env) = eval e Y.env := by rfl) : PE Y (.Attribute e n pos) (tXg Y.K a cls d n te) := by
  refine ⟨fun pinsz s σ H Q I hz => attr_of hb (thn (he.run pinsz s σ H _ I hz) fun u s1z hhz => ?_)⟩
  obtain ⟨x, H1, I1, rxz, rfl, C, rfl, ⟨T, hnoz⟩, ddz, fsz, v, rfl, eaz, l, q⟩ := hhz
  obtain rfl : u = Value.ref a := rxz
  obtain ⟨haz, _⟩ := I1.pin (a, oe) (List.mem_append_left _ hp)
  obtain ⟨vs, hdz⟩ := hf
  obtain ⟨mAz, hnsz, hrz⟩ := (show ObjOk Y.prog Y.w H1 s1z.heap ddz (.xd fsz) from I1.hok ddz _ eaz)
  obtain ⟨od, hoz, hlz⟩ := lookIn_ns hnsz
  obtain ⟨w, huz, ruz⟩ := RelO.some_of (v := v) (o := mAz n) (by rw [← l]; exact hrz n)
  have notcz : PySem.W.notCls oe = true := by
    unfold PySem.W.notCls
    rw [hdz] <;> rfl
  exact HandSPX.exc_get I1.kIn ⟨haz, hzc.1, notcz, by rw [hzc.2]; exact hoz⟩ T.ga T.gg T.exC (PySem.W.findObj_own T.hdC hnoz rfl (by rw [hlz, huz])) (handed_of ruz) ⟨v, H1, I1.tok _, ruz, q⟩
end Tl
namespace Tc
open PySem PySem.Spec PyProof.Rows L2 Fh FhCheck LamX
/-! ### plain: bytes, readers -/
def bv (b : Bytes) : List V := b.map fun c => V.int (c.toNat : Int)
def tx (w : Bytes) : Str := ⟨(w.map (·.toNat)).toArray⟩
def nv (l : List Nat) : List V := l.map fun (n : Nat) => V.int (n : Int)
theorem bv_len (b : Bytes) : (bv b).length = b.length := List.length_map _
theorem bv_at {b : Bytes} {i : Nat} {c : UInt8} (h : b[i]? = some c) : atI (bv b) (i : Int) = some (.int (c.toNat : Int)) := by
  refine atI_nat ?_
  rw [bv, List.getElem?_map, h]
  rfl
theorem nv_at {b : List Nat} {i : Nat} {c : Nat} (h : b[i]? = some c) : atI (nv b) (i : Int) = some (.int (c : Int)) := by
  refine atI_nat ?_
  rw [nv, List.getElem?_map, h]
  rfl
theorem tx_at {w : Bytes} {i c : Nat} (h : (tx w).cps[i]? = some c) : w[i]? = some (UInt8.ofNat c) ∧ (UInt8.ofNat c).toNat = c := by
  unfold tx at h
  simp only [List.getElem?_toArray, List.getElem?_map, Option.map_eq_some_iff] at h
  obtain ⟨x, hx, rfl⟩ := h
  simp [hx]
theorem tx_size (w : Bytes) : (tx w).cps.size = w.length := by simp [tx]
theorem lt_some {α : Type} {l : List α} {i : Nat} (h : i < l.length) : ∃ x, l[i]? = some x := ⟨l[i], List.getElem?_eq_getElem h⟩
theorem drop_at {α : Type} {l : List α} {i : Nat} {x : α} (h : l[i]? = some x) : l.drop i = x :: l.drop (i + 1) := by
  obtain ⟨hi, rfl⟩ := List.getElem?_eq_some_iff.mp h
  exact List.drop_eq_getElem_cons hi
theorem drop_nil {α : Type} {l : List α} {i : Nat} (h : ¬ i < l.length) : l.drop i = [] := List.drop_eq_nil_of_le (Nat.le_of_not_lt h)
theorem pre_of : ∀ {w l : Bytes}, w.length ≤ common w l → w.isPrefixOf l = true
  | [], _, _ => rfl
  | x :: w, [], h => by simp [common] at h
  | x :: w, y :: l, h => by
    unfold common at h
    split at h
    · rename_i e
      subst e
      have := pre_of (w := w) (l := l) (by simpa using h)
      simp [List.isPrefixOf, this]
    · simp at h
/-- they part at i -/
theorem common_at : ∀ {w l : Bytes} {i : Nat} {c : UInt8}, i ≤ common w l → w[i]? = some c → l[i]? ≠ some c → common w l = i ∧ w.isPrefixOf l = false
  | [], _, _, _, _, h9, _ => by simp at h9
  | x :: w, [], i, c, h, _, _ => by
    have e : i = 0 := by simpa [common] using h
    subst e
    simp [common, List.isPrefixOf]
  | x :: w, y :: l, 0, c, _, h, h' => by
    have e : ¬ x = y := fun e => h' (by simpa [e] using h)
    simp [common, e, List.isPrefixOf]
  | x :: w, y :: l, i + 1, c, h, h1, h2 => by
    unfold common at h ⊢
    split at h
    · rename_i e
      subst e
      have := common_at (w := w) (l := l) (i := i) (c := c) (by simpa using h) (by simpa using h1) (by simpa using h2)
      rw [if_pos rfl]
      simp [this.1, List.isPrefixOf, this.2]
    · simp at h
/-- one more in common -/
theorem common_up : ∀ {w l : Bytes} {i : Nat} {c : UInt8}, i ≤ common w l → w[i]? = some c → l[i]? = some c → i + 1 ≤ common w l
  | [], _, _, _, _, h9, _ => by simp at h9
  | x :: w, [], i, c, h, _, h2 => by simp at h2
  | x :: w, y :: l, 0, c, _, h, h' => by
    simp at h h'
    subst h h'
    simp [common]
  | x :: w, y :: l, i + 1, c, h, h1, h2 => by
    unfold common at h ⊢
    split at h
    · rename_i e
      rw [if_pos e]
      have := common_up (w := w) (l := l) (i := i) (c := c) (by simpa using h) (by simpa using h1) (by simpa using h2)
      omega
    · simp at h
abbrev R := Except Nat
/-- read_word -/
def rWord (b : Bytes) (p : Nat) (w : Bytes) : R Nat := if w.isPrefixOf (b.drop p) = true then .ok (p + w.length) else .error (p + common w (b.drop p))
/-! ### heaps -/
theorem same_new {H : Hp} {p : Addr} {o : HO} (h : H p = none) : Same H (upd H p o) := fun b u e => by
  rw [upd_ne (ne_of_none e h)]
  exact e
def cdA (K : PySem.W.Frag) (f : Addr) : Addr := match (fdA K f).code with
  | .ref c => c
  | _ => 0
def tabA (K : PySem.W.Frag) (f : Addr) : Addr := match K.lookup (cdA K f) with
  | some ⟨_, _, .fields us, _⟩ => (match (us[11]? : Option Value) with
    | some (Value.ref P) => P
    | _ => 0)
  | _ => 0
abbrev qLam : Str := "read_sign.<locals>.<lambda>"
/-- the one table of code objects that the text fills -/
abbrev Tb (K : PySem.W.Frag) : List (Addr × Str) := [(tabA K (ga K "read_sign"), qLam)]
/-- all that is known but the table stays, the table stays good -/
structure Sm (K : PySem.W.Frag) (H H' : Hp) : Prop where
  e : ExtN H H'
  t : Tabs (Tb K) H → Tabs (Tb K) H'
  f : ∀ b, H' b = none → H b = none
section
variable {K : PySem.W.Frag} {H H' H1 H2 : Hp} {a : Addr} {xs : List V} {o : HO}
theorem Sm.refl : Sm K H H := ⟨ExtN.refl H, id, fun _ z => z⟩
theorem Sm.trans (x : Sm K H H1) (y : Sm K H1 H2) : Sm K H H2 := ⟨x.e.trans y.e, fun z => y.t (x.t z), fun b z => x.f b (y.f b z)⟩
theorem Sm.of (x : Same H H') : Sm K H H' := ⟨ExtN.of x, fun z => z.ext x, fun b z => x.free z⟩
theorem Sm.new (h : H a = none) : Sm K H (upd H a o) := .of (same_new h)
theorem Sm.at (x : Sm K H H') (h : H a = some o) (n : ∀ ps, o ≠ .tbl ps := by intro _ z; cases z) : H' a = some o := x.e a o h n
theorem Sm.rd (x : Sm K H H') (h : Rd H a o) (n : ∀ ps, o ≠ .tbl ps := by intro _ z; cases z) : Rd H' a o := by
  rcases h with h | ⟨u, h⟩
  · exact .inl (x.e _ _ h n)
  · exact .inr ⟨u, x.e _ _ h fun _ z => by cases z⟩
theorem Sm.l (x : Sm K H H') (h : SqL K H a xs) : SqL K H' a xs := by
  rcases h with h | h
  · exact .inl (x.rd h)
  · exact .inr h
theorem Sm.tt (x : Sm K H H') (h : SqT K H a xs) : SqT K H' a xs := by
  rcases h with h | h
  · exact .inl (x.rd h)
  · exact .inr h
end
/-- Stuck at a place is wished -/
def Stk (K : PySem.W.Frag) (H : Hp) (E : XK) (p : Nat) : Prop := ∀ H' d, Sm K H H' → H' d = some (.xd [("place", .int (p : Int))]) → E (.ref (ga K "Stuck")) (some d) H'
/-- what a reader's result asks -/
def Res (K : PySem.W.Frag) {α : Type} (r : R α) (H : Hp) (E : XK) (Q : α → Hp → Prop) : Prop := match r with
  | .ok x => ∀ H', Sm K H H' → Q x H'
  | .error p => Stk K H E p
section
variable {K : PySem.W.Frag} {H H' : Hp} {E : XK} {α β : Type} {r : R α} {f : α → R β} {Q : α → Hp → Prop} {G : β → Hp → Prop} {p : Nat}
theorem Stk.same (h : Stk K H E p) (s : Sm K H H') : Stk K H' E p := fun H2 d s2 e => h H2 d (s.trans s2) e
theorem Stk.at (h : Stk K H E p) {d : Addr} (hd : H d = none) : E (.ref (ga K "Stuck")) (some d) (upd H d (.xd [("place", .int (p : Int))])) := h _ d (.new hd) upd_same
theorem Res.same (h : Res K r H E Q) (s : Sm K H H') : Res K r H' E Q := by
  cases r with
  | ok x => exact fun H2 s2 => h H2 (s.trans s2)
  | error p => exact Stk.same h s
theorem Res.step (h : Res K (r.bind f) H E G) (k : ∀ x H', r = .ok x → Sm K H H' → Res K (f x) H' E G → Q x H') : Res K r H E Q := by
  cases r with
  | ok x => exact fun H' s => k x H' rfl s (Res.same (r := f x) h s)
  | error p => exact h
theorem Res.ok {x : α} (h : Res K (.ok x) H E Q) : Q x H := h H .refl
theorem Res.okS {x : α} (h : Res K (.ok x) H E Q) (s : Sm K H H') : Q x H' := h H' s
theorem Res.err (h : Res K (.error p : R α) H E Q) : Stk K H E p := h
end
/-! ### values -/
section
variable {K : PySem.W.Frag} {H : Hp} {a : Addr} {xs : List V}
theorem len_l (h : SqL K H a xs) : LenV K (.ref a) H xs.length := .inl ⟨_, h, rfl⟩
theorem len_t (h : SqT K H a xs) : LenV K (.ref a) H xs.length := .inr ⟨_, h, rfl⟩
theorem len_b {b : Bytes} (h : SqL K H a (bv b)) : LenV K (.ref a) H b.length := bv_len b ▸ len_l h
end
/-- a global that holds a whole number -/
theorem pe_gi {X : Cx} {x : Str} {i : Int} {pos : Pos} (hg : Gl X x) (h : IntC X.mg x i) (hd : (x == ("__debug__" : Str)) = false := by decide) : PE X (.Name x pos) (tC (.int i)) := by
  obtain ⟨u, hm, r⟩ := h
  exact pe_glob hg hm r hd
end Tc
namespace Tc
open PySem L2 PySem.Spec PyProof.Rows
/-- the i-th statement of the program -/
def top (i : Nat) : Stmt := PySem.Challenge.pw_targetchecks_s03_number.main.body.getD i (.Pass ⟨0, 0, 0, 0⟩)
/-- the j-th statement of a class -/
def inn (s : Stmt) (j : Nat) : Stmt := match s with
  | .ClassDef _ _ _ b _ _ _ _ _ _ _ => b.getD j s
  | _ => s
abbrev s_is_digit : Stmt := top 12
abbrev s_is_sign : Stmt := top 13
abbrev s_is_of_word : Stmt := top 14
abbrev s_next_character : Stmt := top 15
abbrev s_some_character : Stmt := top 16
abbrev s_some_sign : Stmt := top 17
abbrev s_lead_shape : Stmt := top 18
abbrev s_read_character : Stmt := top 19
abbrev s_read_sign : Stmt := top 20
abbrev s_read_word : Stmt := top 22
abbrev s_read_number : Stmt := top 23
abbrev s_can_become : Stmt := top 24
abbrev s_CheckList : Stmt := top 31
abbrev s_CheckList_init : Stmt := inn s_CheckList 0
abbrev s_read_checklist : Stmt := top 32
abbrev s_read_line : Stmt := top 33
abbrev s_may_repeat : Stmt := top 34
abbrev s_after_all : Stmt := top 35
abbrev s_read_sort : Stmt := top 36
abbrev s_read_marks : Stmt := top 37
abbrev s_read_mark : Stmt := top 38
abbrev s_read_spacing : Stmt := top 39
abbrev s_read_ending : Stmt := top 40
abbrev s_read_pair : Stmt := top 41
abbrev s_read_limit : Stmt := top 42
abbrev s_read_range : Stmt := top 43
abbrev s_Row : Stmt := top 51
abbrev s_Row_init : Stmt := inn s_Row 0
abbrev s_find_runs : Stmt := top 52
abbrev s_read_piece : Stmt := top 53
abbrev s_read_pieces : Stmt := top 54
abbrev s_read_row : Stmt := top 55
abbrev s_is_mark_at : Stmt := top 60
abbrev s_digits_end : Stmt := top 61
abbrev s_whole_end : Stmt := top 62
abbrev s_fraction_end : Stmt := top 63
abbrev s_digits_of : Stmt := top 64
abbrev s_value_of : Stmt := top 65
abbrev s_find_figures : Stmt := top 66
abbrev s_refuse_long : Stmt := top 71
abbrev s_read_text : Stmt := top 72
abbrev s_number : Stmt := top 73
abbrev s_figure_at : Stmt := top 74
theorem sc_is_digit : FnScope ["character"] ["character"] (defScope s_is_digit) := ⟨rfl, rfl, rfl, by decide +kernel, rfl, by decide +kernel, by decide +kernel⟩
theorem sc_is_sign : FnScope ["character", "first", "last"] ["character"] (defScope s_is_sign) := ⟨rfl, rfl, rfl, by decide +kernel, rfl, by decide +kernel, by decide +kernel⟩
theorem sc_is_of_word : FnScope ["character"] ["character"] (defScope s_is_of_word) := ⟨rfl, rfl, rfl, by decide +kernel, rfl, by decide +kernel, by decide +kernel⟩
theorem sc_next_character : FnScope ["least"] ["least"] (defScope s_next_character) := ⟨rfl, rfl, rfl, by decide +kernel, rfl, by decide +kernel, by decide +kernel⟩
theorem sc_some_character : FnScope ["low", "high"] ["low", "high"] (defScope s_some_character) := ⟨rfl, rfl, rfl, by decide +kernel, rfl, by decide +kernel, by decide +kernel⟩
theorem sc_some_sign : FnScope ["low", "high", "barred", "first", "last", "sign"] ["low", "high", "barred"] (defScope s_some_sign) := ⟨rfl, rfl, rfl, by decide +kernel, rfl, by decide +kernel, by decide +kernel⟩
theorem sc_lead_shape : FnScope ["lead", "place"] ["lead", "place"] (defScope s_lead_shape) := ⟨rfl, rfl, rfl, by decide +kernel, rfl, by decide +kernel, by decide +kernel⟩
theorem sc_read_character : FnScope ["data", "start", "wanted", "place", "bits", "own", "least", "low"] ["data", "start", "wanted"] (defScope s_read_character) := ⟨rfl, rfl, rfl, by decide +kernel, rfl, by decide +kernel, by decide +kernel⟩
theorem sc_read_sign : FnScope ["data", "start", "least", "barred"] ["data", "start", "least", "barred"] (defScope s_read_sign) := ⟨rfl, rfl, rfl, by decide +kernel, rfl, by decide +kernel, by decide +kernel⟩
theorem sc_read_word : FnScope ["data", "place", "word", "letter"] ["data", "place", "word"] (defScope s_read_word) := ⟨rfl, rfl, rfl, by decide +kernel, rfl, by decide +kernel, by decide +kernel⟩
theorem sc_read_number : FnScope ["data", "start", "least", "most", "value", "place", "after_zero"] ["data", "start", "least", "most"] (defScope s_read_number) := ⟨rfl, rfl, rfl, by decide +kernel, rfl, by decide +kernel, by decide +kernel⟩
theorem sc_can_become : FnScope ["value", "least", "most", "low", "high"] ["value", "least", "most"] (defScope s_can_become) := ⟨rfl, rfl, rfl, by decide +kernel, rfl, by decide +kernel, by decide +kernel⟩
theorem sc_CheckList_init : FnScope ["self"] ["self"] (defScope s_CheckList_init) := ⟨rfl, rfl, rfl, by decide +kernel, rfl, by decide +kernel, by decide +kernel⟩
theorem sc_read_checklist : FnScope ["data", "checklist", "place", "rank"] ["data"] (defScope s_read_checklist) := ⟨rfl, rfl, rfl, by decide +kernel, rfl, by decide +kernel, by decide +kernel⟩
theorem sc_read_line : FnScope ["checklist", "rank", "data", "start", "farthest", "candidate", "place", "e"] ["checklist", "rank", "data", "start"] (defScope s_read_line) := ⟨rfl, rfl, rfl, by decide +kernel, rfl, by decide +kernel, by decide +kernel⟩
theorem sc_may_repeat : FnScope ["checklist", "word", "kept"] ["checklist", "word"] (defScope s_may_repeat) := ⟨rfl, rfl, rfl, by decide +kernel, rfl, by decide +kernel, by decide +kernel⟩
theorem sc_after_all : FnScope ["kept"] ["kept"] (defScope s_after_all) := ⟨rfl, rfl, rfl, by decide +kernel, rfl, by decide +kernel, by decide +kernel⟩
theorem sc_read_sort : FnScope ["checklist", "word", "data", "start", "place", "limit"] ["checklist", "word", "data", "start"] (defScope s_read_sort) := ⟨rfl, rfl, rfl, by decide +kernel, rfl, by decide +kernel, by decide +kernel⟩
theorem sc_read_marks : FnScope ["checklist", "data", "start", "place", "marks", "index", "barred", "mark"] ["checklist", "data", "start"] (defScope s_read_marks) := ⟨rfl, rfl, rfl, by decide +kernel, rfl, by decide +kernel, by decide +kernel⟩
theorem sc_read_mark : FnScope ["data", "start", "barred"] ["data", "start", "barred"] (defScope s_read_mark) := ⟨rfl, rfl, rfl, by decide +kernel, rfl, by decide +kernel, by decide +kernel⟩
theorem sc_read_spacing : FnScope ["kept", "barred", "data", "start", "place", "sign"] ["kept", "barred", "data", "start"] (defScope s_read_spacing) := ⟨rfl, rfl, rfl, by decide +kernel, rfl, by decide +kernel, by decide +kernel⟩
theorem sc_read_ending : FnScope ["checklist", "data", "start", "last_first", "last_second", "least", "place", "first", "second"] ["checklist", "data", "start"] (defScope s_read_ending) := ⟨rfl, rfl, rfl, by decide +kernel, rfl, by decide +kernel, by decide +kernel⟩
theorem sc_read_pair : FnScope ["checklist", "data", "start", "place", "first", "barred", "second"] ["checklist", "data", "start"] (defScope s_read_pair) := ⟨rfl, rfl, rfl, by decide +kernel, rfl, by decide +kernel, by decide +kernel⟩
theorem sc_read_limit : FnScope ["data", "start", "most", "place", "limit"] ["data", "start", "most"] (defScope s_read_limit) := ⟨rfl, rfl, rfl, by decide +kernel, rfl, by decide +kernel, by decide +kernel⟩
theorem sc_read_range : FnScope ["checklist", "data", "start", "least", "place", "first", "last"] ["checklist", "data", "start"] (defScope s_read_range) := ⟨rfl, rfl, rfl, by decide +kernel, rfl, by decide +kernel, by decide +kernel⟩
theorem sc_Row_init : FnScope ["self", "pieces", "place", "piece"] ["self", "pieces"] (defScope s_Row_init) := ⟨rfl, rfl, rfl, by decide +kernel, rfl, by decide +kernel, by decide +kernel⟩
theorem sc_find_runs : FnScope ["marked", "runs", "start", "place", "here"] ["marked"] (defScope s_find_runs) := ⟨rfl, rfl, rfl, by decide +kernel, rfl, by decide +kernel, by decide +kernel⟩
theorem sc_read_piece : FnScope ["data", "start", "character", "place", "kind", "tag_number"] ["data", "start"] (defScope s_read_piece) := ⟨rfl, rfl, rfl, by decide +kernel, rfl, by decide +kernel, by decide +kernel⟩
theorem sc_read_pieces : FnScope ["data", "start", "pieces", "place", "piece"] ["data", "start"] (defScope s_read_pieces) := ⟨rfl, rfl, rfl, by decide +kernel, rfl, by decide +kernel, by decide +kernel⟩
theorem sc_read_row : FnScope ["data", "row", "place"] ["data"] (defScope s_read_row) := ⟨rfl, rfl, rfl, by decide +kernel, rfl, by decide +kernel, by decide +kernel⟩
theorem sc_is_mark_at : FnScope ["pieces", "place", "mark"] ["pieces", "place", "mark"] (defScope s_is_mark_at) := ⟨rfl, rfl, rfl, by decide +kernel, rfl, by decide +kernel, by decide +kernel⟩
theorem sc_digits_end : FnScope ["pieces", "start", "place"] ["pieces", "start"] (defScope s_digits_end) := ⟨rfl, rfl, rfl, by decide +kernel, rfl, by decide +kernel, by decide +kernel⟩
theorem sc_whole_end : FnScope ["pieces", "start", "group", "end"] ["pieces", "start", "group"] (defScope s_whole_end) := ⟨rfl, rfl, rfl, by decide +kernel, rfl, by decide +kernel, by decide +kernel⟩
theorem sc_fraction_end : FnScope ["pieces", "start", "decimal", "end"] ["pieces", "start", "decimal"] (defScope s_fraction_end) := ⟨rfl, rfl, rfl, by decide +kernel, rfl, by decide +kernel, by decide +kernel⟩
theorem sc_digits_of : FnScope ["pieces", "value", "kind"] ["pieces"] (defScope s_digits_of) := ⟨rfl, rfl, rfl, by decide +kernel, rfl, by decide +kernel, by decide +kernel⟩
theorem sc_value_of : FnScope ["whole", "fraction", "first", "end", "value"] ["whole", "fraction"] (defScope s_value_of) := ⟨rfl, rfl, rfl, by decide +kernel, rfl, by decide +kernel, by decide +kernel⟩
theorem sc_find_figures : FnScope ["row", "marks", "decimal", "group", "pieces", "figures", "place", "middle", "end", "value"] ["row", "marks"] (defScope s_find_figures) := ⟨rfl, rfl, rfl, by decide +kernel, rfl, by decide +kernel, by decide +kernel⟩
theorem sc_refuse_long : FnScope ["data", "most"] ["data", "most"] (defScope s_refuse_long) := ⟨rfl, rfl, rfl, by decide +kernel, rfl, by decide +kernel, by decide +kernel⟩
theorem sc_read_text : FnScope ["reader", "data", "kind", "e"] ["reader", "data", "kind"] (defScope s_read_text) := ⟨rfl, rfl, rfl, by decide +kernel, rfl, by decide +kernel, by decide +kernel⟩
theorem sc_number : FnScope ["side", "k", "p", "t", "checklist", "row", "start", "end", "value", "e"] ["side", "k", "p", "t"] (defScope s_number) := ⟨rfl, rfl, rfl, by decide +kernel, rfl, by decide +kernel, by decide +kernel⟩
theorem sc_figure_at : FnScope ["checklist", "row", "side", "k", "figures"] ["checklist", "row", "side", "k"] (defScope s_figure_at) := ⟨rfl, rfl, rfl, by decide +kernel, rfl, by decide +kernel, by decide +kernel⟩
/-- what the top leaves, in K and in the module -/
structure Txt (K : PySem.W.Frag) (mg : Str → Option Value) : Prop where
  xb : ExB K mg
  d_is_digit : Df K mg "is_digit" s_is_digit ["character"]
  d_is_sign : Df K mg "is_sign" s_is_sign ["character"]
  d_is_of_word : Df K mg "is_of_word" s_is_of_word ["character"]
  d_next_character : Df K mg "next_character" s_next_character ["least"]
  d_some_character : Df K mg "some_character" s_some_character ["low", "high"]
  d_some_sign : Df K mg "some_sign" s_some_sign ["low", "high", "barred"]
  d_lead_shape : Df K mg "lead_shape" s_lead_shape ["lead", "place"]
  d_read_character : Df K mg "read_character" s_read_character ["data", "start", "wanted"]
  d_read_sign : Df K mg "read_sign" s_read_sign ["data", "start", "least", "barred"]
  d_read_word : Df K mg "read_word" s_read_word ["data", "place", "word"]
  d_read_number : Df K mg "read_number" s_read_number ["data", "start", "least", "most"]
  d_can_become : Df K mg "can_become" s_can_become ["value", "least", "most"]
  c_CheckList : Kl K mg "CheckList"
  d_CheckList_init : DfA K "__init__" "CheckList.__init__" (ma K "CheckList" "__init__") s_CheckList_init ["self"]
  na_CheckList_lines : Na K "CheckList" "lines"
  na_CheckList_asked : Na K "CheckList" "asked"
  na_CheckList_marks : Na K "CheckList" "marks"
  na_CheckList_not_after_blank : Na K "CheckList" "not_after_blank"
  na_CheckList_after_blank : Na K "CheckList" "after_blank"
  na_CheckList_endings : Na K "CheckList" "endings"
  na_CheckList_partners : Na K "CheckList" "partners"
  na_CheckList_brackets : Na K "CheckList" "brackets"
  na_CheckList_most : Na K "CheckList" "most"
  na_CheckList_longer : Na K "CheckList" "longer"
  na_CheckList_ranges : Na K "CheckList" "ranges"
  d_read_checklist : Df K mg "read_checklist" s_read_checklist ["data"]
  d_read_line : Df K mg "read_line" s_read_line ["checklist", "rank", "data", "start"]
  d_may_repeat : Df K mg "may_repeat" s_may_repeat ["checklist", "word"]
  d_after_all : Df K mg "after_all" s_after_all ["kept"]
  d_read_sort : Df K mg "read_sort" s_read_sort ["checklist", "word", "data", "start"]
  d_read_marks : Df K mg "read_marks" s_read_marks ["checklist", "data", "start"]
  d_read_mark : Df K mg "read_mark" s_read_mark ["data", "start", "barred"]
  d_read_spacing : Df K mg "read_spacing" s_read_spacing ["kept", "barred", "data", "start"]
  d_read_ending : Df K mg "read_ending" s_read_ending ["checklist", "data", "start"]
  d_read_pair : Df K mg "read_pair" s_read_pair ["checklist", "data", "start"]
  d_read_limit : Df K mg "read_limit" s_read_limit ["data", "start", "most"]
  d_read_range : Df K mg "read_range" s_read_range ["checklist", "data", "start"]
  c_Row : Kl K mg "Row"
  d_Row_init : DfA K "__init__" "Row.__init__" (ma K "Row" "__init__") s_Row_init ["self", "pieces"]
  na_Row_pieces : Na K "Row" "pieces"
  na_Row_places : Na K "Row" "places"
  na_Row_characters : Na K "Row" "characters"
  na_Row_words : Na K "Row" "words"
  d_find_runs : Df K mg "find_runs" s_find_runs ["marked"]
  d_read_piece : Df K mg "read_piece" s_read_piece ["data", "start"]
  d_read_pieces : Df K mg "read_pieces" s_read_pieces ["data", "start"]
  d_read_row : Df K mg "read_row" s_read_row ["data"]
  d_is_mark_at : Df K mg "is_mark_at" s_is_mark_at ["pieces", "place", "mark"]
  d_digits_end : Df K mg "digits_end" s_digits_end ["pieces", "start"]
  d_whole_end : Df K mg "whole_end" s_whole_end ["pieces", "start", "group"]
  d_fraction_end : Df K mg "fraction_end" s_fraction_end ["pieces", "start", "decimal"]
  d_digits_of : Df K mg "digits_of" s_digits_of ["pieces"]
  d_value_of : Df K mg "value_of" s_value_of ["whole", "fraction"]
  d_find_figures : Df K mg "find_figures" s_find_figures ["row", "marks"]
  d_refuse_long : Df K mg "refuse_long" s_refuse_long ["data", "most"]
  d_read_text : Df K mg "read_text" s_read_text ["reader", "data", "kind"]
  d_number : Df K mg "number" s_number ["side", "k", "p", "t"]
  d_figure_at : Df K mg "figure_at" s_figure_at ["checklist", "row", "side", "k"]
  cd : (fd K "read_sign").code = .ref (cdA K (ga K "read_sign"))
  stuck : Ex1 K mg "Stuck" "place"
  stuckI : PySem.Ego.IT K (ma K "Stuck" "__init__") "place"
  ref : PySem.Ego.RT K mg (ga K "Refusal") (ma K "Refusal" "__init__")
  wrong : Ex1 K mg "WrongText" "answer"
  wrongI : PySem.Ego.wIT K (ma K "WrongText" "__init__")
  e_TooMuch : Ex1 K mg "TooMuch" "answer"
  eI_TooMuch : PySem.Ego.nIT K (ma K "TooMuch" "__init__") 6
  e_WrongSide : Ex1 K mg "WrongSide" "answer"
  eI_WrongSide : PySem.Ego.nIT K (ma K "WrongSide" "__init__") 1
  e_NoSuchNumber : Ex1 K mg "NoSuchNumber" "answer"
  eI_NoSuchNumber : PySem.Ego.nIT K (ma K "NoSuchNumber" "__init__") 2
  fld_Stuck : Tl.FldOk K (ga K "Stuck") "place"
  xm_Stuck_Stuck : PySem.W.exmOne K (.ref (ga K "Stuck")) (.ref (ga K "Stuck")) = some true
  g_Refusal : mg "Refusal" = some (.ref (ga K "Refusal"))
  fld_WrongText : Tl.FldOk K (ga K "WrongText") "answer"
  xm_WrongText_Refusal : PySem.W.exmOne K (.ref (ga K "WrongText")) (.ref (ga K "Refusal")) = some true
  fld_TooMuch : Tl.FldOk K (ga K "TooMuch") "answer"
  xm_TooMuch_Refusal : PySem.W.exmOne K (.ref (ga K "TooMuch")) (.ref (ga K "Refusal")) = some true
  fld_WrongSide : Tl.FldOk K (ga K "WrongSide") "answer"
  xm_WrongSide_Refusal : PySem.W.exmOne K (.ref (ga K "WrongSide")) (.ref (ga K "Refusal")) = some true
  fld_NoSuchNumber : Tl.FldOk K (ga K "NoSuchNumber") "answer"
  xm_NoSuchNumber_Refusal : PySem.W.exmOne K (.ref (ga K "NoSuchNumber")) (.ref (ga K "Refusal")) = some true
  n_dict : mg "dict" = none
  n_enumerate : mg "enumerate" = none
  n_len : mg "len" = none
  n_list : mg "list" = none
  n_max : mg "max" = none
  n_min : mg "min" = none
  n_ord : mg "ord" = none
  n_range : mg "range" = none
  n_tuple : mg "tuple" = none
  i_BLANK : IntC mg "BLANK" 32
  i_LAST_NUMBER : IntC mg "LAST_NUMBER" 1114111
  i_LAST_SIGN : IntC mg "LAST_SIGN" 12351
  g_SIGN_RANGES : mg "SIGN_RANGES" = some (.ref (ga K "SIGN_RANGES"))
  t_SIGN_RANGES : PairsK K (ga K "SIGN_RANGES") [(33, 47), (58, 64), (91, 96), (123, 126), (161, 191), (215, 215), (247, 247), (8208, 8303), (12288, 12351)]
  g_WORDS : mg "WORDS" = some (.ref (ga K "WORDS"))
  t_WORDS : TupK K (ga K "WORDS") [.str "empty", .str "same", .str "tags", .str "numbers", .str "blanks", .str "nobefore", .str "before", .str "end", .str "pair", .str "twice", .str "most", .str "longer", .str "not"]
  i_MOST_LINES_OF_A_SORT : IntC mg "MOST_LINES_OF_A_SORT" 64
  i_LARGEST_MOST : IntC mg "LARGEST_MOST" 4096
  i_LARGEST_LONGER : IntC mg "LARGEST_LONGER" 100000
  i_NO_MARK : IntC mg "NO_MARK" 0
  i_CHARACTER : IntC mg "CHARACTER" 0
  g_TAG_KINDS : mg "TAG_KINDS" = some (.ref (ga K "TAG_KINDS"))
  i_MOST_TAG_NUMBER : IntC mg "MOST_TAG_NUMBER" 999
  i_MOST_PIECES : IntC mg "MOST_PIECES" 4096
  i_BRACE : IntC mg "BRACE" 123
  i_LINE_END : IntC mg "LINE_END" 10
  i_ZERO : IntC mg "ZERO" 48
  i_POINT : IntC mg "POINT" 46
  i_MOST_LEADING : IntC mg "MOST_LEADING" 3
  i_MOST_BYTES : IntC mg "MOST_BYTES" 4096
  i_LIST_TEXT : IntC mg "LIST_TEXT" 1
  i_FIRST_ROW_TEXT : IntC mg "FIRST_ROW_TEXT" 2

end Tc
namespace Tc
open PyProof.Rows PySem PySem.W PySem.Calls
/-! the row is well said, part by part -/
abbrev PGw : Program := PySem.Challenge.rw_targetchecks_s03_number.prog
theorem and6 {a b c d e f : Bool} (h1 : a = true) (h2 : b = true) (h3 : c = true) (h4 : d = true) (h5 : e = true) (h6 : f = true) : (a && b && c && d && e && f) = true := by
  rw [h1, h2, h3, h4, h5, h6]
  rfl
theorem ws_names : namesResolve PGw = true := by decide +kernel
theorem ws_road : noRoadLSs { strict := !(importedModules PGw.main.body).all cThrough.contains, foot := none, bare := (["vars", "dir", "locals"] : List Str).filter (readsOut PGw PGw.main.body) } PGw.main.body = true := by decide +kernel
theorem ws_meet : (namesMeet PGw PGw.main.body fun _ n => attrL n) = true := by decide +kernel
theorem ws_open : looksOpen PGw = true := by
  unfold looksOpen
  exact and6 (by decide +kernel) (by decide +kernel) ws_names (by decide +kernel) ws_road ws_meet
theorem ws_said : PySem.Challenge.rw_targetchecks_s03_number.wellSaid = true := by
  unfold OpenSpec.wellSaid
  exact and6 ws_open (by decide +kernel) (by decide +kernel) (by decide +kernel) (by decide +kernel) (by decide +kernel)
theorem ws_bare : PGw.bare := ⟨rfl, rfl, rfl, rfl, rfl, by decide +kernel⟩
end Tc
namespace Tc
open PySem L2 PySem.Spec PyProof.Rows
section
variable {K : PySem.W.Frag} {mg : Str → Option Value}
theorem fdA_of {f : Addr} {ocz : Value} {od : Option Addr} {gz : FuncData} {oslz : Array (Option Value)} (lkz : K.lookup f = some ⟨ocz, od, .func gz, oslz⟩) : fdA K f = gz := by
  unfold fdA
  rw [lkz]
/-- a def as the head tells it -/
theorem df_of {x q : Str} {f : Addr} {st : Stmt} {ps : List Str} (c : ∃ gz, FunD K x q (defArgs st) (defBody st) (defScope st) [] [] f gz)
    (hb : ∀ (kVz docz pmz : Value) (anz : Option Addr) (cdvz ctz : Value) (us : List Value), us.length = ps.length → bindArgs (PySem.W.fnOf x q (defArgs st) (defBody st) (defScope st) .none kVz docz pmz anz cdvz ctz) ⟨us, []⟩ = pure (ps.zip us)) : DfA K x q f st ps := by
  obtain ⟨gz, F⟩ := c
  have hBz := FunD.bindsN F hb
  obtain ⟨⟨ocz, od, dVz, kVz, docz, pmz, anz, cdvz, ctz, oslz, e, lkz, hcdz, hDz, _⟩, kpz⟩ := F
  obtain ⟨_, rfl⟩ : ([] : List V) = [] ∧ dVz = .none := by
    rcases hDz with hz | ⟨hz, _⟩
    · exact hz
    · exact (hz rfl).elim
  have zz := fdA_of lkz
  exact ⟨⟨⟨ocz, od, kVz, docz, pmz, anz, cdvz, ctz, oslz, zz.trans e, by rw [zz]; exact lkz, hcdz⟩, kpz⟩, by rw [zz]; exact hBz, kpz⟩
/-- what such a def's object is -/
theorem it_of {x q : Str} {f : Addr} {st : Stmt} {G : Prop} (c : ∃ gz, FunD K x q (defArgs st) (defBody st) (defScope st) [] [] f gz)
    (k : ∀ (ocz : Value) (od : Option Addr) (kVz docz pmz : Value) (anz : Option Addr) (cdvz ctz : Value) (oslz : Array (Option Value)), K.lookup f = some ⟨ocz, od, .func (PySem.W.fnOf x q (defArgs st) (defBody st) (defScope st) .none kVz docz pmz anz cdvz ctz), oslz⟩ → PySem.W.codeIn K cdvz q = true → G) : G := by
  obtain ⟨gz, ⟨ocz, od, dVz, kVz, docz, pmz, anz, cdvz, ctz, oslz, e, lkz, hcdz, hDz, _⟩, kpz⟩ := c
  obtain ⟨_, rfl⟩ : ([] : List V) = [] ∧ dVz = .none := by
    rcases hDz with hz | ⟨hz, _⟩
    · exact hz
    · exact (hz rfl).elim
  subst e
  exact k _ _ _ _ _ _ _ _ _ lkz hcdz
theorem cd_of {x q : Str} {f : Addr} {ar : Arguments} {bd : List Stmt} {sc : Scope} {ds : List V} {ks : List (Str × V)} (c : ∃ gz, FunD K x q ar bd sc ds ks f gz) : (fdA K f).code = .ref (cdA K f) := by
  obtain ⟨gz, ⟨ocz, od, dVz, kVz, docz, pmz, anz, cdvz, ctz, oslz, e, lkz, hcdz, _⟩, kpz⟩ := c
  subst e
  obtain ⟨a, eaz⟩ := He.codeIn_ref hcdz
  subst eaz
  unfold cdA
  rw [fdA_of lkz]
theorem int_c {x : Str} {i : Int} (hz : ∃ tz, mg x = some (.int i tz)) : IntC mg x i := by
  obtain ⟨tz, e⟩ := hz
  exact ⟨_, e, tz, rfl⟩
/-! ### further tests of the written part -/
def valB (o : Option PySem.W.CFound) (v : Value) : Bool := match o with
  | some (.val u) => decide (u = v)
  | _ => false
theorem valB_ok {o : Option PySem.W.CFound} {v : Value} (hz : valB o v = true) : o = some (.val v) := by
  unfold valB at hz
  split at hz
  · rw [of_decide_eq_true hz]
  · cases hz
def exV (K : PySem.W.Frag) : Bool := valB (PySem.W.findCls K (.type "Exception") (.type "type") "__init__") (.builtin "Exception.__init__")
def exB (x f : Str) (K : PySem.W.Frag) : Bool := PySem.W.excInitIn K (ga K x) PySem.Ego.bmE "Exception.__new__" && (PySem.W.excOver K (ga K x) PySem.Ego.bmE && (PySem.W.hasDictIn K (ga K x) && (He.eqO (PySem.W.findIn K (.ref (ga K x)) "__setattr__") (some (some (.builtin "object.__setattr__"))) &&
  (He.eqO (PySem.W.takerIn K (ga K x) f) (some none) && (He.eqO (PySem.W.findIn K (.ref (ga K x)) "__init__") (some (some (.ref (ma K x "__init__")))) && (decide (PySem.W.typeIn K (.ref (ma K x "__init__")) = some (.type "function")) && (PySem.W.keepIn K (.ref (ga K x)) &&
  (decide (PySem.W.subIn K (.ref (ga K x)) (.type "BaseException") = some true) && decide (PySem.W.typeIn K (.ref (ga K x)) = some (.type "type"))))))))))
theorem ex1_of {x f : Str} (hz : exB x f K = true) (gz : mg x = some (.ref (ga K x))) : Ex1 K mg x f := by
  obtain ⟨h1z, hz⟩ := He.ba hz
  obtain ⟨h2z, hz⟩ := He.ba hz
  obtain ⟨h3z, hz⟩ := He.ba hz
  obtain ⟨h4z, hz⟩ := He.ba hz
  obtain ⟨h5z, hz⟩ := He.ba hz
  obtain ⟨h6z, hz⟩ := He.ba hz
  obtain ⟨h7z, hz⟩ := He.ba hz
  obtain ⟨h8z, hz⟩ := He.ba hz
  obtain ⟨h9z, h10⟩ := He.ba hz
  exact ⟨⟨h1z, h2z, h3z, He.eqO_ok h4z, He.eqO_ok h5z⟩, He.eqO_ok h6z, of_decide_eq_true h7z, h8z, of_decide_eq_true h9z, of_decide_eq_true h10, gz⟩
def refB (K : PySem.W.Frag) : Bool := He.eqO (PySem.W.specialIn K (.ref (ga K "Refusal")) "__getattribute__") (some (some (.builtin "type.__getattribute__"))) && (PySem.W.readsIn K (ga K "Refusal") (.type "type") &&
  (valB (PySem.W.findCls K (.ref (ga K "Refusal")) (.type "type") "__init__") (.ref (ma K "Refusal" "__init__")) && PySem.W.keepIn K (.ref (ma K "Refusal" "__init__"))))
theorem ref_of (hz : refB K = true) (gz : mg "Refusal" = some (.ref (ga K "Refusal"))) (it : PySem.Ego.IT K (ma K "Refusal" "__init__") "answer") : PySem.Ego.RT K mg (ga K "Refusal") (ma K "Refusal" "__init__") := by
  obtain ⟨h1z, hz⟩ := He.ba hz
  obtain ⟨h2z, hz⟩ := He.ba hz
  obtain ⟨h3z, h4z⟩ := He.ba hz
  exact ⟨gz, He.eqO_ok h1z, h2z, valB_ok h3z, h4z, it⟩
def tupA (K : PySem.W.Frag) (a : Addr) (vs : List V) : Bool := match K.lookup a with
  | some ⟨.type c, _, .seq its _, _⟩ => decide (c = "tuple") && (decide (its.size ≤ sizeLine) && He.relAll vs its.toList)
  | _ => false
theorem tupA_ok {a : Addr} {vs : List V} (hz : tupA K a vs = true) : TupK K a vs := by
  intro H
  unfold tupA at hz
  cases q : K.lookup a with
  | none =>
    rw [q] at hz
    cases hz
  | some o =>
    obtain ⟨ocz, od, dtz, oslz⟩ := o
    rw [q] at hz
    cases ocz with
    | type c =>
      cases dtz with
      | seq its n =>
        obtain ⟨h1z, h2z⟩ := He.ba hz
        obtain ⟨h3z, h4z⟩ := He.ba h2z
        exact .inr ⟨_, its, n, q, congrArg Value.type (of_decide_eq_true h1z), rfl, of_decide_eq_true h3z, He.relAll_ok h4z⟩
      | _ => cases hz
    | _ => cases dtz <;> cases hz
/-- the objects that a sequence holds -/
def adrs (K : PySem.W.Frag) (a : Addr) : List Addr := match K.lookup a with
  | some ⟨_, _, .seq its _, _⟩ => its.toList.flatMap He.refV
  | _ => []
def allP (K : PySem.W.Frag) : List Addr → List (Nat × Nat) → Bool
  | [], [] => true
  | tz :: ts, x :: l => tupA K tz [.int x.1, .int x.2] && allP K ts l
  | _, _ => false
theorem allP_ok : ∀ {ts : List Addr} {l : List (Nat × Nat)}, allP K ts l = true → ts.length = l.length ∧ ∀ (i : Nat) (x : Nat × Nat), l[i]? = some x → ∃ tz, ts[i]? = some tz ∧ TupK K tz [.int x.1, .int x.2]
  | [], [], _ => ⟨rfl, fun i x hz => by simp at hz⟩
  | [], _ :: _, hz => by cases hz
  | _ :: _, [], hz => by cases hz
  | tz :: ts, x :: l, hz => by
    obtain ⟨h1z, h2z⟩ := He.ba (show (tupA K tz [.int x.1, .int x.2] && allP K ts l) = true from hz)
    obtain ⟨h3z, h4z⟩ := allP_ok h2z
    refine ⟨congrArg (· + 1) h3z, fun i yz hyz => ?_⟩
    cases i with
    | zero =>
      simp at hyz
      subst hyz
      exact ⟨tz, rfl, tupA_ok h1z⟩
    | succ i => exact h4z i yz hyz
def prsA (K : PySem.W.Frag) (a : Addr) (l : List (Nat × Nat)) : Bool := tupA K a ((adrs K a).map V.ref) && allP K (adrs K a) l
theorem prsA_ok {a : Addr} {l : List (Nat × Nat)} (hz : prsA K a l = true) : PairsK K a l := by
  obtain ⟨h1z, h2z⟩ := He.ba hz
  obtain ⟨h3z, h4z⟩ := allP_ok h2z
  exact ⟨adrs K a, tupA_ok h1z, h3z, h4z⟩
def exB_all (l : List (PySem.W.Frag → Bool)) (K : PySem.W.Frag) : Bool := l.all fun f => f K
theorem ex_at {l : List (PySem.W.Frag → Bool)} (hz : exB_all l K = true) (i : Nat) (f : PySem.W.Frag → Bool) (e : l[i]? = some f) : f K = true := List.all_eq_true.mp hz f (List.mem_of_getElem? e)
/-! ### the def whose text holds a lambda: its code object, the table -/
theorem cT_eq {x : Str} : He.cT K (x, none) = (cdA K (ga K x), tabA K (ga K x)) := by
  have c1z : ∀ o, K.lookup (ga K x) = o → He.codeOf K (x, none) = (match o with
    | some ⟨_, _, .func gz, _⟩ => (match gz.code with
      | .ref c => c
      | _ => 0)
    | _ => 0) := fun o e => by
    subst e
    rfl
  have c2z : ∀ o, K.lookup (ga K x) = o → fdA K (ga K x) = (match o with
    | some ⟨_, _, .func gz, _⟩ => gz
    | _ => fdA [] 0) := fun o e => by
    subst e
    rfl
  have e1z : He.codeOf K (x, none) = cdA K (ga K x) := by
    unfold cdA; cases q : K.lookup (ga K x) with
    | none =>
      rw [c2z _ q]
      exact c1z _ q
    | some o =>
      obtain ⟨ocz, od, dtz, oslz⟩ := o
      rw [c2z _ q]
      refine (c1z _ q).trans ?_
      cases dtz <;> rfl
  unfold He.cT
  rw [e1z]
  refine Prod.ext rfl ?_
  show He.tabOf K (cdA K (ga K x)) = tabA K (ga K x)
  have t1z : ∀ o, K.lookup (cdA K (ga K x)) = o → He.tabOf K (cdA K (ga K x)) = (match o with
    | some ⟨_, _, .fields us, _⟩ => (match us.getD 11 .none with
      | .ref P => P
      | _ => 0)
    | _ => 0) := fun o e => by
    subst e
    rfl
  have t2z : ∀ o, K.lookup (cdA K (ga K x)) = o → tabA K (ga K x) = (match o with
    | some ⟨_, _, .fields us, _⟩ => (match (us[11]? : Option Value) with
      | some (Value.ref P) => P
      | _ => 0)
    | _ => 0) := fun o e => by
    subst e
    rfl
  cases q : K.lookup (cdA K (ga K x)) with
  | none => exact (t1z _ q).trans (t2z _ q).symm
  | some o =>
    obtain ⟨ocz, od, dtz, oslz⟩ := o
    refine (t1z _ q).trans (Eq.trans ?_ (t2z _ q).symm)
    cases dtz with
    | fields us =>
      show (match us.getD 11 .none with | .ref P => P | _ => 0) = (match (us[11]? : Option Value) with | some (Value.ref P) => P | _ => 0)
      rw [Array.getD_eq_getD_getElem?]
      cases us[11]? with
      | none => rfl
      | some v => cases v <;> rfl
    | _ => rfl
end
end Tc
/-! A hook of the head that keeps a dict of the module with int keys out of what is written down: it stands in the abstract heap. -/
namespace Tc
open PySem L2 PySem.Spec PyProof.Rows
/-- an entry with ints -/
def entB (e : DictEntry) (p : Int × Int) : Bool := match e.key, e.val with
  | .int i _, .int j _ => decide (i = p.1) && (decide (j = p.2) && decide (e.hash = hashInt p.1))
  | _, _ => false
def entsB : List DictEntry → List (Int × Int) → Bool
  | [], [] => true
  | e :: es, p :: ps => entB e p && entsB es ps
  | _, _ => false
/-- a dict of ints -/
def dicB (ps : List (Int × Int)) : Obj → Bool
  | ⟨.type c, none, .dict es _, sl⟩ => decide (c = "dict") && (sl.isEmpty && entsB es.toList ps)
  | _ => false
def dicH (ps : List (Int × Int)) : List (L2.Key × V) := ps.map fun p => (Sum.inl p.1, V.int p.2)
theorem entB_ok {e : DictEntry} {p : Int × Int} (hz : entB e p = true) : e.hash = hashInt p.1 ∧ ∃ t u, e.key = .int p.1 t ∧ e.val = .int p.2 u := by
  obtain ⟨eh, ek, ev⟩ := e
  cases ek with
  | int i t =>
    cases ev with
    | int j u =>
      obtain ⟨h3z, h4z⟩ := He.ba (show (decide (i = p.1) && (decide (j = p.2) && decide (eh = hashInt p.1))) = true from hz)
      obtain ⟨h5z, h6z⟩ := He.ba h4z
      cases of_decide_eq_true h3z
      cases of_decide_eq_true h5z
      exact ⟨of_decide_eq_true h6z, t, u, rfl, rfl⟩
    | _ => cases hz
  | _ => cases hz
theorem entsB_ok {P : Program} {w : World} : ∀ {es : List DictEntry} {ps : List (Int × Int)}, entsB es ps = true → ∃ vs : List (L2.Key × Value), KV (dicH ps) vs ∧ Pairs (mixKind P w) es vs ∧ (∀ e ∈ es, ∃ k, (mixKind P w).is k e.key = true ∧ e.hash = (mixKind P w).hash k) ∧ vs.map (·.1) = ps.map fun p => Sum.inl p.1
  | [], [], _ => ⟨[], .nil, .nil, (fun e he => by cases he), rfl⟩
  | e :: es, p :: ps, hz => by
    obtain ⟨h1z, h2z⟩ := He.ba (show (entB e p && entsB es ps) = true from hz)
    obtain ⟨a1z, t, u, ekz, evz⟩ := entB_ok h1z
    obtain ⟨vs, b1z, b2z, b3z, b4z⟩ := entsB_ok (P := P) (w := w) h2z
    have kz : (mixKind P w).is (Sum.inl p.1) e.key = true := by rw [ekz]; exact mixKind_int P w p.1 t
    refine ⟨(Sum.inl p.1, e.val) :: vs, .cons ⟨rfl, by rw [evz]; exact ⟨u, rfl⟩⟩ b1z, .cons kz rfl b2z, fun e' he => ?_, by rw [List.map_cons, List.map_cons, b4z]⟩; rcases List.mem_cons.mp he with rfl | he
    · exact ⟨Sum.inl p.1, kz, a1z⟩
    · exact b3z e' he
  | [], _ :: _, hz => by cases hz
  | _ :: _, [], hz => by cases hz
/-- what the abstract heap says of it -/
theorem dicB_ok {P : Program} {w : World} {H : Hp} {hz : Heap} {a : Addr} {o : Obj} {ps : List (Int × Int)} (e : hz.get? a = some o) (ok : dicB ps o = true) (hs : (a == sysModules) = false) (hl : ps.length ≤ 64) (hn : (ps.map fun p => (Sum.inl p.1 : L2.Key)).Nodup) : ObjOk P w H hz a (.frz o (.dK (dicH ps))) := by
  refine ⟨e, ?_, hs, ?_⟩
  · unfold dicH
    rw [List.length_map]
    exact Nat.le_trans hl (by decide)
  obtain ⟨oc, od, dt, sl⟩ := o
  unfold dicB at ok
  split at ok
  · rename_i c es ep sl' heq
    obtain ⟨h1z, ok⟩ := He.ba ok
    obtain ⟨h2z, h3z⟩ := He.ba ok
    cases heq
    obtain ⟨vs, b1z, b2z, b3z, b4z⟩ := entsB_ok (P := P) (w := w) h3z
    exact ⟨vs, b1z, _, _, _, e, ⟨congrArg Value.type (of_decide_eq_true h1z), rfl, Array.isEmpty_iff.mp h2z⟩, rfl, fun e' he => b3z e' (Array.mem_toList_iff.mpr he), b2z, by rw [b4z]; exact hn⟩
  · cases ok
theorem dicB_data {o : Obj} {ps : List (Int × Int)} (ok : dicB ps o = true) : ∃ es ep, o.data = .dict es ep := by
  obtain ⟨oc, od, dt, sl⟩ := o
  unfold dicB at ok
  split at ok
  · rename_i heq
    cases heq
    exact ⟨_, _, rfl⟩
  · cases ok
/-- such a dict is no namespace -/
theorem dicB_ns {hz : Heap} {a : Addr} {o : Obj} {p : Int × Int} {ps : List (Int × Int)} {m : Str → Option Value} (e : hz.get? a = some o) (ok : dicB (p :: ps) o = true) : ¬ hz.Ns a m := by
  rintro ⟨o2z, es2z, ep2z, e2z, d2z, sk, _⟩
  rw [e] at e2z
  cases e2z
  obtain ⟨oc, od, dt, sl⟩ := o
  unfold dicB at ok
  split at ok
  · rename_i c es ep sl' heq
    obtain ⟨_, ok⟩ := He.ba ok
    obtain ⟨_, h3z⟩ := He.ba ok
    cases heq
    cases d2z
    cases hes : es2z.toList with
    | nil => rw [hes] at h3z; cases h3z
    | cons x r =>
      rw [hes] at h3z
      obtain ⟨h4z, _⟩ := He.ba (show (entB x p && entsB r ps) = true from h3z)
      obtain ⟨_, t, u, ekz, _⟩ := entB_ok h4z
      obtain ⟨n, t2z, e3z⟩ := sk x (by rw [← Array.mem_toList_iff, hes]; exact List.mem_cons_self)
      rw [ekz] at e3z
      cases e3z
  · cases ok
/-- the objects at these addresses, a dict of these ints left out -/
abbrev seenT (ps : List (Int × Int)) (g : Addr → Option Obj) (as : List Addr) : PySem.W.Frag := (He.frT g as).filter fun q => !dicB ps q.2
theorem seenT_mem {ps : List (Int × Int)} {g : Addr → Option Obj} {as : List Addr} {a : Addr} {o : Obj} (hz : (seenT ps g as).lookup a = some o) : g a = some o ∧ He.emptyTab o = false := by
  obtain ⟨h1z, h2z⟩ := List.mem_filter.mp (List.mem_filter.mp (He.lookup_mem hz)).1
  exact ⟨He.frG_mem h1z, by simpa using h2z⟩
theorem seenT_in {ps : List (Int × Int)} {as : List Addr} {hz : Heap} : (seenT ps hz.get? as).In hz := fun _ _ e => (seenT_mem e).1
theorem seenT_none {ps : List (Int × Int)} {g : Addr → Option Obj} {as : List Addr} {a : Addr} {o : Obj} (hz : g a = some o) (ht : He.emptyTab o = true) : (seenT ps g as).lookup a = none := by
  cases e : (seenT ps g as).lookup a with
  | none => rfl
  | some u =>
    obtain ⟨h1z, h2z⟩ := seenT_mem e
    rw [hz] at h1z
    cases h1z
    rw [ht] at h2z
    cases h2z
/-- the dict of the name x is there, and it is not written down -/
def tagsB (x : Str) (ps : List (Int × Int)) (g : Addr → Option Obj) (K : PySem.W.Frag) : Bool := (K.lookup (ga K x)).isNone && (!(ga K x == sysModules) && (match g (ga K x) with
  | some o => dicB ps o
  | none => false))
abbrev AlZ : Type := He.AlD × Bool
def obsZ (as : List Addr) (fa : List He.Fa) (fn : List He.DefD) (tf : List He.Defn) (ex : PySem.W.Frag → Bool) (x : Str) (ps : List (Int × Int)) (g : Addr → Option Obj) : AlZ := (He.obsD fa fn (seenT ps g as), ex (seenT ps g as) && (He.tabsB g tf (seenT ps g as) && tagsB x ps g (seenT ps g as)))
/-- what is told of the heap hz -/
structure SaysZ (fa : List He.Fa) (fn : List He.DefD) (tf : List He.Defn) (ex : PySem.W.Frag → Bool) (x : Str) (ps : List (Int × Int)) (hz : Heap) (K : PySem.W.Frag) : Prop where
  d : He.SaysD fa fn K
  more : ex K = true
  tabs : ∀ p ∈ tf, PySem.W.codeHdIn K (He.cT K p).1 (He.cT K p).2 = true ∧ K.lookup (He.cT K p).2 = none ∧ hz.get? (He.cT K p).2 = some { cls := .none, data := .fields #[] }
  dic : K.lookup (ga K x) = none ∧ (ga K x == sysModules) = false ∧ ∃ o, hz.get? (ga K x) = some o ∧ dicB ps o = true
theorem saysZ_of {as : List Addr} {fa : List He.Fa} {fn : List He.DefD} {tf : List He.Defn} {ex : PySem.W.Frag → Bool} {x : Str} {ps : List (Int × Int)} {hz : Heap} (e : obsZ as fa fn tf ex x ps hz.get? = (He.valD fn, true)) : SaysZ fa fn tf ex x ps hz (seenT ps hz.get? as) := by
  have a := congrArg Prod.fst e
  have b := congrArg Prod.snd e
  obtain ⟨b1z, b2z⟩ := He.ba (show (ex (seenT ps hz.get? as) && (He.tabsB hz.get? tf (seenT ps hz.get? as) && tagsB x ps hz.get? (seenT ps hz.get? as))) = true from b)
  obtain ⟨b3z, b4z⟩ := He.ba b2z
  obtain ⟨c1z, c2z⟩ := He.ba b4z
  obtain ⟨c3z, c4z⟩ := He.ba c2z
  refine ⟨a, b1z, fun p hpz => ?_, Option.isNone_iff_eq_none.mp c1z, by simpa using c3z, ?_⟩
  · obtain ⟨z1z, z2z⟩ := He.ba (List.all_eq_true.mp b3z p hpz)
    cases q : hz.get? (He.cT (seenT ps hz.get? as) p).2 with
    | none => rw [q] at z2z; cases z2z
    | some o =>
      rw [q] at z2z
      exact ⟨z1z, seenT_none q z2z, congrArg some (He.emptyTab_eq z2z)⟩
  · cases q : hz.get? (ga (seenT ps hz.get? as) x) with
    | none => rw [q] at c4z; cases c4z
    | some o =>
      rw [q] at c4z
      exact ⟨o, rfl, c4z⟩
def hookZ (as : List Addr) (fa : List He.Fa) (fn : List He.DefD) (tf : List He.Defn) (ex : PySem.W.Frag → Bool) (x : Str) (ps : List (Int × Int)) : PySem.W.Hook where
  α := AlZ
  obs := fun s => obsZ as fa fn tf ex x ps s.heap.get?
  val := fun _ => (He.valD fn, true)
  says := fun _ hz => ∃ K : PySem.W.Frag, K.In hz ∧ SaysZ fa fn tf ex x ps hz K
  of := fun _ _ e => ⟨_, seenT_in, saysZ_of e⟩
  keeps := fun _ _ _ ⟨K, i, c⟩ k => ⟨K, i.keeps k, c.d, c.more, fun p hpz => let ⟨x, y, zz⟩ := c.tabs p hpz; ⟨x, y, k _ _ zz⟩, c.dic.1, c.dic.2.1, let ⟨o, q1z, q2z⟩ := c.dic.2.2; ⟨o, k _ _ q1z, q2z⟩⟩
theorem obsZ_eq {as : List Addr} {fa : List He.Fa} {fn : List He.DefD} {tf : List He.Defn} {ex : PySem.W.Frag → Bool} {x : Str} {ps : List (Int × Int)} {g : Addr → Option Obj} {s : Shared} (hz : ∀ a, g a = s.heap.get? a) : obsZ as fa fn tf ex x ps g = (hookZ as fa fn tf ex x ps).obs s := by
  rw [funext hz]
  rfl
end Tc
namespace Tc
open PySem L2 PySem.Spec PyProof.Rows
abbrev PG : Program := PySem.Challenge.rw_targetchecks_s03_number.prog
abbrev f0 : He.DefD := ⟨("is_digit", none), "is_digit", "is_digit", defArgs s_is_digit, defBody s_is_digit, defScope s_is_digit, [], []⟩
abbrev f1 : He.DefD := ⟨("is_sign", none), "is_sign", "is_sign", defArgs s_is_sign, defBody s_is_sign, defScope s_is_sign, [], []⟩
abbrev f2 : He.DefD := ⟨("is_of_word", none), "is_of_word", "is_of_word", defArgs s_is_of_word, defBody s_is_of_word, defScope s_is_of_word, [], []⟩
abbrev f3 : He.DefD := ⟨("next_character", none), "next_character", "next_character", defArgs s_next_character, defBody s_next_character, defScope s_next_character, [], []⟩
abbrev f4 : He.DefD := ⟨("some_character", none), "some_character", "some_character", defArgs s_some_character, defBody s_some_character, defScope s_some_character, [], []⟩
abbrev f5 : He.DefD := ⟨("some_sign", none), "some_sign", "some_sign", defArgs s_some_sign, defBody s_some_sign, defScope s_some_sign, [], []⟩
abbrev f6 : He.DefD := ⟨("lead_shape", none), "lead_shape", "lead_shape", defArgs s_lead_shape, defBody s_lead_shape, defScope s_lead_shape, [], []⟩
abbrev f7 : He.DefD := ⟨("read_character", none), "read_character", "read_character", defArgs s_read_character, defBody s_read_character, defScope s_read_character, [], []⟩
abbrev f8 : He.DefD := ⟨("read_sign", none), "read_sign", "read_sign", defArgs s_read_sign, defBody s_read_sign, defScope s_read_sign, [], []⟩
abbrev f9 : He.DefD := ⟨("read_word", none), "read_word", "read_word", defArgs s_read_word, defBody s_read_word, defScope s_read_word, [], []⟩
abbrev f10 : He.DefD := ⟨("read_number", none), "read_number", "read_number", defArgs s_read_number, defBody s_read_number, defScope s_read_number, [], []⟩
abbrev f11 : He.DefD := ⟨("can_become", none), "can_become", "can_become", defArgs s_can_become, defBody s_can_become, defScope s_can_become, [], []⟩
abbrev f12 : He.DefD := ⟨("CheckList", some "__init__"), "__init__", "CheckList.__init__", defArgs s_CheckList_init, defBody s_CheckList_init, defScope s_CheckList_init, [], []⟩
abbrev f13 : He.DefD := ⟨("read_checklist", none), "read_checklist", "read_checklist", defArgs s_read_checklist, defBody s_read_checklist, defScope s_read_checklist, [], []⟩
abbrev f14 : He.DefD := ⟨("read_line", none), "read_line", "read_line", defArgs s_read_line, defBody s_read_line, defScope s_read_line, [], []⟩
abbrev f15 : He.DefD := ⟨("may_repeat", none), "may_repeat", "may_repeat", defArgs s_may_repeat, defBody s_may_repeat, defScope s_may_repeat, [], []⟩
abbrev f16 : He.DefD := ⟨("after_all", none), "after_all", "after_all", defArgs s_after_all, defBody s_after_all, defScope s_after_all, [], []⟩
abbrev f17 : He.DefD := ⟨("read_sort", none), "read_sort", "read_sort", defArgs s_read_sort, defBody s_read_sort, defScope s_read_sort, [], []⟩
abbrev f18 : He.DefD := ⟨("read_marks", none), "read_marks", "read_marks", defArgs s_read_marks, defBody s_read_marks, defScope s_read_marks, [], []⟩
abbrev f19 : He.DefD := ⟨("read_mark", none), "read_mark", "read_mark", defArgs s_read_mark, defBody s_read_mark, defScope s_read_mark, [], []⟩
abbrev f20 : He.DefD := ⟨("read_spacing", none), "read_spacing", "read_spacing", defArgs s_read_spacing, defBody s_read_spacing, defScope s_read_spacing, [], []⟩
abbrev f21 : He.DefD := ⟨("read_ending", none), "read_ending", "read_ending", defArgs s_read_ending, defBody s_read_ending, defScope s_read_ending, [], []⟩
abbrev f22 : He.DefD := ⟨("read_pair", none), "read_pair", "read_pair", defArgs s_read_pair, defBody s_read_pair, defScope s_read_pair, [], []⟩
abbrev f23 : He.DefD := ⟨("read_limit", none), "read_limit", "read_limit", defArgs s_read_limit, defBody s_read_limit, defScope s_read_limit, [], []⟩
abbrev f24 : He.DefD := ⟨("read_range", none), "read_range", "read_range", defArgs s_read_range, defBody s_read_range, defScope s_read_range, [], []⟩
abbrev f25 : He.DefD := ⟨("Row", some "__init__"), "__init__", "Row.__init__", defArgs s_Row_init, defBody s_Row_init, defScope s_Row_init, [], []⟩
abbrev f26 : He.DefD := ⟨("find_runs", none), "find_runs", "find_runs", defArgs s_find_runs, defBody s_find_runs, defScope s_find_runs, [], []⟩
abbrev f27 : He.DefD := ⟨("read_piece", none), "read_piece", "read_piece", defArgs s_read_piece, defBody s_read_piece, defScope s_read_piece, [], []⟩
abbrev f28 : He.DefD := ⟨("read_pieces", none), "read_pieces", "read_pieces", defArgs s_read_pieces, defBody s_read_pieces, defScope s_read_pieces, [], []⟩
abbrev f29 : He.DefD := ⟨("read_row", none), "read_row", "read_row", defArgs s_read_row, defBody s_read_row, defScope s_read_row, [], []⟩
abbrev f30 : He.DefD := ⟨("is_mark_at", none), "is_mark_at", "is_mark_at", defArgs s_is_mark_at, defBody s_is_mark_at, defScope s_is_mark_at, [], []⟩
abbrev f31 : He.DefD := ⟨("digits_end", none), "digits_end", "digits_end", defArgs s_digits_end, defBody s_digits_end, defScope s_digits_end, [], []⟩
abbrev f32 : He.DefD := ⟨("whole_end", none), "whole_end", "whole_end", defArgs s_whole_end, defBody s_whole_end, defScope s_whole_end, [], []⟩
abbrev f33 : He.DefD := ⟨("fraction_end", none), "fraction_end", "fraction_end", defArgs s_fraction_end, defBody s_fraction_end, defScope s_fraction_end, [], []⟩
abbrev f34 : He.DefD := ⟨("digits_of", none), "digits_of", "digits_of", defArgs s_digits_of, defBody s_digits_of, defScope s_digits_of, [], []⟩
abbrev f35 : He.DefD := ⟨("value_of", none), "value_of", "value_of", defArgs s_value_of, defBody s_value_of, defScope s_value_of, [], []⟩
abbrev f36 : He.DefD := ⟨("find_figures", none), "find_figures", "find_figures", defArgs s_find_figures, defBody s_find_figures, defScope s_find_figures, [], []⟩
abbrev f37 : He.DefD := ⟨("refuse_long", none), "refuse_long", "refuse_long", defArgs s_refuse_long, defBody s_refuse_long, defScope s_refuse_long, [], []⟩
abbrev f38 : He.DefD := ⟨("read_text", none), "read_text", "read_text", defArgs s_read_text, defBody s_read_text, defScope s_read_text, [], []⟩
abbrev f39 : He.DefD := ⟨("number", none), "number", "number", defArgs s_number, defBody s_number, defScope s_number, [], []⟩
abbrev f40 : He.DefD := ⟨("figure_at", none), "figure_at", "figure_at", defArgs s_figure_at, defBody s_figure_at, defScope s_figure_at, [], []⟩
abbrev f41 : He.DefD := ⟨("Stuck", some "__init__"), "__init__", "Stuck.__init__", defArgs (inn (top 1) 0), defBody (inn (top 1) 0), defScope (inn (top 1) 0), [], []⟩
abbrev f42 : He.DefD := ⟨("Refusal", some "__init__"), "__init__", "Refusal.__init__", defArgs (inn (top 2) 0), defBody (inn (top 2) 0), defScope (inn (top 2) 0), [], []⟩
abbrev f43 : He.DefD := ⟨("WrongText", some "__init__"), "__init__", "WrongText.__init__", defArgs (inn (top 5) 0), defBody (inn (top 5) 0), defScope (inn (top 5) 0), [], []⟩
abbrev f44 : He.DefD := ⟨("TooMuch", some "__init__"), "__init__", "TooMuch.__init__", defArgs (inn (top 6) 0), defBody (inn (top 6) 0), defScope (inn (top 6) 0), [], []⟩
abbrev f45 : He.DefD := ⟨("WrongSide", some "__init__"), "__init__", "WrongSide.__init__", defArgs (inn (top 3) 0), defBody (inn (top 3) 0), defScope (inn (top 3) 0), [], []⟩
abbrev f46 : He.DefD := ⟨("NoSuchNumber", some "__init__"), "__init__", "NoSuchNumber.__init__", defArgs (inn (top 4) 0), defBody (inn (top 4) 0), defScope (inn (top 4) 0), [], []⟩
def fn : List He.DefD := [f0, f1, f2, f3, f4, f5, f6, f7, f8, f9, f10, f11, f12, f13, f14, f15, f16, f17, f18, f19, f20, f21, f22, f23, f24, f25, f26, f27, f28, f29, f30, f31, f32, f33, f34, f35, f36, f37, f38, f39, f40, f41, f42, f43, f44, f45, f46]
def fa : List He.Fa := [.free "Exception", .glo "is_digit", .glo "is_sign", .glo "is_of_word", .glo "next_character", .glo "some_character", .glo "some_sign", .glo "lead_shape", .glo "read_character", .glo "read_sign", .glo "read_word", .glo "read_number", .glo "can_become", .glo "CheckList", .cls "CheckList", .mkr "CheckList", .noat "CheckList" "lines", .noat "CheckList" "asked", .noat "CheckList" "marks", .noat "CheckList" "not_after_blank", .noat "CheckList" "after_blank", .noat "CheckList" "endings", .noat "CheckList" "partners", .noat "CheckList" "brackets", .noat "CheckList" "most", .noat "CheckList" "longer", .noat "CheckList" "ranges", .glo "read_checklist", .glo "read_line", .glo "may_repeat", .glo "after_all", .glo "read_sort", .glo "read_marks", .glo "read_mark", .glo "read_spacing", .glo "read_ending", .glo "read_pair", .glo "read_limit", .glo "read_range", .glo "Row", .cls "Row", .mkr "Row", .noat "Row" "pieces", .noat "Row" "places", .noat "Row" "characters", .noat "Row" "words", .glo "find_runs", .glo "read_piece", .glo "read_pieces", .glo "read_row", .glo "is_mark_at", .glo "digits_end", .glo "whole_end", .glo "fraction_end", .glo "digits_of", .glo "value_of", .glo "find_figures", .glo "refuse_long", .glo "read_text", .glo "number", .glo "figure_at", .glo "Stuck", .glo "Refusal", .glo "WrongText", .glo "TooMuch", .glo "WrongSide", .glo "NoSuchNumber", .noat "Stuck" "place", .exm "Stuck" "Stuck" true, .noat "WrongText" "answer", .exm "WrongText" "Refusal" true, .noat "TooMuch" "answer", .exm "TooMuch" "Refusal" true, .noat "WrongSide" "answer", .exm "WrongSide" "Refusal" true, .noat "NoSuchNumber" "answer", .exm "NoSuchNumber" "Refusal" true, .free "dict", .free "enumerate", .free "len", .free "list", .free "max", .free "min", .free "ord", .free "range", .free "tuple", .int "BLANK" 32, .int "LAST_NUMBER" 1114111, .int "LAST_SIGN" 12351, .glo "SIGN_RANGES", .glo "WORDS", .int "MOST_LINES_OF_A_SORT" 64, .int "LARGEST_MOST" 4096, .int "LARGEST_LONGER" 100000, .int "NO_MARK" 0, .int "CHARACTER" 0, .glo "TAG_KINDS", .int "MOST_TAG_NUMBER" 999, .int "MOST_PIECES" 4096, .int "BRACE" 123, .int "LINE_END" 10, .int "ZERO" 48, .int "POINT" 46, .int "MOST_LEADING" 3, .int "MOST_BYTES" 4096, .int "LIST_TEXT" 1, .int "FIRST_ROW_TEXT" 2]
def exs : List (PySem.W.Frag → Bool) := [exV, exB "Stuck" "place", refB, exB "WrongText" "answer", exB "TooMuch" "answer", exB "WrongSide" "answer", exB "NoSuchNumber" "answer", fun K => xfB K (ga K "Stuck"), fun K => xfB K (ga K "WrongText"), fun K => xfB K (ga K "TooMuch"), fun K => xfB K (ga K "WrongSide"), fun K => xfB K (ga K "NoSuchNumber"), fun K => prsA K (ga K "SIGN_RANGES") [(33, 47), (58, 64), (91, 96), (123, 126), (161, 191), (215, 215), (247, 247), (8208, 8303), (12288, 12351)], fun K => tupA K (ga K "WORDS") [.str "empty", .str "same", .str "tags", .str "numbers", .str "blanks", .str "nobefore", .str "before", .str "end", .str "pair", .str "twice", .str "most", .str "longer", .str "not"]]
def names0 : List Str := ["Stuck", "Refusal", "WrongSide", "NoSuchNumber", "WrongText", "TooMuch", "BLANK", "LAST_NUMBER", "LAST_SIGN", "SIGN_RANGES", "is_digit", "is_sign", "is_of_word", "next_character", "some_character"]
def names1 : List Str := ["some_sign", "lead_shape", "read_character", "read_sign", "read_word", "read_number", "can_become", "WORDS", "MOST_LINES_OF_A_SORT", "LARGEST_MOST", "LARGEST_LONGER", "NO_MARK", "CheckList", "read_checklist", "read_line"]
def names2 : List Str := ["may_repeat", "after_all", "read_sort", "read_marks", "read_mark", "read_spacing", "read_ending", "read_pair", "read_limit", "read_range", "CHARACTER", "TAG_KINDS", "MOST_TAG_NUMBER", "MOST_PIECES", "BRACE"]
def names3 : List Str := ["LINE_END", "Row", "find_runs", "read_piece", "read_pieces", "read_row", "ZERO", "POINT", "MOST_LEADING", "is_mark_at", "digits_end", "whole_end", "fraction_end", "digits_of", "value_of"]
def names4 : List Str := ["find_figures", "MOST_BYTES", "LIST_TEXT", "FIRST_ROW_TEXT", "refuse_long", "read_text", "figure_at"]
def names : List Str := names0 ++ names1 ++ names2 ++ names3 ++ names4
def tf : List He.Defn := [("read_sign", none)]
def asL : List Addr := [2, 3, 6, 4, 31, 51, 71, 90, 109, 128, 140, 147, 154, 161, 168, 175, 182, 189, 196, 203, 210, 217, 224, 225, 242, 253, 260, 267, 274, 281, 288, 295, 302, 309, 316, 323, 330, 331, 346, 357, 364, 371, 378, 385, 392, 399, 406, 411, 418, 425, 432, 439, 446, 453, 0, 30, 50, 70, 89, 108, 127, 131, 132, 133, 134, 135, 136, 137, 138, 139, 146, 153, 160, 167, 174, 181, 188, 195, 202, 209, 216, 223, 241, 252, 259, 266, 273, 280, 287, 294, 301, 308, 315, 322, 329, 345, 356, 363, 370, 377, 384, 391, 398, 405, 410, 417, 424, 431, 438, 445, 452, 28, 29, 32, 48, 49, 52, 68, 69, 87, 88, 106, 107, 125, 126, 141, 142, 143, 144, 145, 148, 149, 150, 151, 152, 155, 156, 157, 158, 159, 162, 163, 164, 165, 166, 169, 170, 171, 172, 173, 176, 177, 178, 179, 180, 183, 184, 185, 186, 187, 190, 191, 192, 193, 194, 197, 198, 199, 200, 201, 204, 205, 206, 207, 208, 211, 212, 213, 214, 215, 218, 219, 220, 221, 222, 239, 240, 243, 244, 247, 248, 249, 250, 251, 254, 255, 256, 257, 258, 261, 262, 263, 264, 265, 268, 269, 270, 271, 272, 275, 276, 277, 278, 279, 282, 283, 284, 285, 286, 289, 290, 291, 292, 293, 296, 297, 298, 299, 300, 303, 304, 305, 306, 307, 310, 311, 312, 313, 314, 317, 318, 319, 320, 321, 324, 325, 326, 327, 328, 343, 344, 347, 348, 351, 352, 353, 354, 355, 358, 359, 360, 361, 362, 365, 366, 367, 368, 369, 372, 373, 374, 375, 376, 379, 380, 381, 382, 383, 386, 387, 388, 389, 390, 393, 394, 395, 396, 397, 400, 401, 402, 403, 404, 407, 408, 409, 412, 413, 414, 415, 416, 419, 420, 421, 422, 423, 426, 427, 428, 429, 430, 433, 434, 435, 436, 437, 440, 441, 442, 443, 444, 447, 448, 449, 450, 451, 27, 47, 67, 86, 105, 124, 238, 342, 22, 23, 24, 25, 26, 42, 43, 44, 45, 46, 62, 63, 64, 65, 66, 81, 82, 83, 84, 85, 100, 101, 102, 103, 104, 119, 120, 121, 122, 123, 233, 234, 235, 236, 237, 339, 340, 341]
def tgs : List (Int × Int) := [(43, 1), (45, 2), (46, 3)]
abbrev hk : PySem.W.Hook := hookZ asL fa fn tf (exB_all exs) "TAG_KINDS" tgs
def ob (s : PySem.W.SharedT) : AlZ := obsZ asL fa fn tf (exB_all exs) "TAG_KINDS" tgs (HandSHeadRun.getT s)
theorem ob_eq (s : PySem.W.SharedT) : ob s = hk.obs s.abs := obsZ_eq (HandSHeadRun.getT_eq s)
abbrev qv : Program := PySem.W.view PG [73]
theorem map3 {A B C D : Type} {o : Option A} {a : A → B} {b : A → C} {c : A → D} {x : B} {y : C} {z : D} (h1 : o.map (fun s => (a s, b s)) = some (x, y)) (h2 : o.map (fun s => c s) = some z) : o.map (fun s => (a s, b s, c s)) = some (x, y, z) := by
  cases o with
  | none => cases h1
  | some v =>
    have e1 : (a v, b v) = (x, y) := Option.some.inj h1
    have e2 : c v = z := Option.some.inj h2
    have e3 : a v = x := congrArg Prod.fst e1
    have e4 : b v = y := congrArg Prod.snd e1
    show some (a v, b v, c v) = some (x, y, z)
    rw [e3, e4, e2]
open PySem.W HandSHeadRun in
theorem runT1 (w : World) : ∀ os : OsState, (endF (stepQ (denQ tabQ) PG (w.withFollow "special-get-raises" true)) 9000 PG (w.withFollow "special-get-raises" true) os).map (fun s => (looksF PG (boot_heap (w.withFollow "special-get-raises" true).params) s.abs, seenQ qv names (importedModules PG.main.body) (fun s => xlAt qv [] s && recOk [] s) s.abs)) = some (true, openGood qv names) := by
  intro os
  kernel_rfl
open PySem.W HandSHeadRun in
theorem runT2 (w : World) : ∀ os : OsState, (endF (stepQ (denQ tabQ) PG (w.withFollow "special-get-raises" true)) 9000 PG (w.withFollow "special-get-raises" true) os).map (fun s => ob s) = some (hk.val (w.withFollow "special-get-raises" true)) := by
  intro os
  kernel_rfl
open PySem.W HandSHeadRun in
theorem runF1 (w : World) : ∀ os : OsState, (endF (stepQ (denQ tabQ) PG (w.withFollow "special-get-raises" false)) 9000 PG (w.withFollow "special-get-raises" false) os).map (fun s => (looksF PG (boot_heap (w.withFollow "special-get-raises" false).params) s.abs, seenQ qv names (importedModules PG.main.body) (fun s => xlAt qv [] s && recOk [] s) s.abs)) = some (true, openGood qv names) := by
  intro os
  kernel_rfl
open PySem.W HandSHeadRun in
theorem runF2 (w : World) : ∀ os : OsState, (endF (stepQ (denQ tabQ) PG (w.withFollow "special-get-raises" false)) 9000 PG (w.withFollow "special-get-raises" false) os).map (fun s => ob s) = some (hk.val (w.withFollow "special-get-raises" false)) := by
  intro os
  kernel_rfl
open PySem.W HandSHeadRun in
theorem run (w : World) : ∀ os : OsState, (endF (stepQ (denQ tabQ) PG w) 9000 PG w os).map (fun s => (looksF PG (boot_heap w.params) s.abs, seenQ qv names (importedModules PG.main.body) (fun s => xlAt qv [] s && recOk [] s) s.abs, ob s)) = some (true, openGood qv names, hk.val w) := by
  have key : ∀ (v : World), (∃ b, v = w.withFollow "special-get-raises" b) → ∀ os : OsState, (endF (stepQ (denQ tabQ) PG v) 9000 PG v os).map (fun s => (looksF PG (boot_heap v.params) s.abs, seenQ qv names (importedModules PG.main.body) (fun s => xlAt qv [] s && recOk [] s) s.abs, ob s)) = some (true, openGood qv names, hk.val v) := by
    rintro v ⟨b, rfl⟩ os
    cases b
    · exact map3 (runF1 w os) (runF2 w os)
    · exact map3 (runT1 w os) (runT2 w os)
  exact key w ⟨_, (World.withFollow_self w "special-get-raises").symm⟩
theorem txt_of {K : PySem.W.Frag} {h : Heap} {mg : Str → Option Value} (X : K.In h) (G : h.Ns mainGlobals mg) (c : SaysZ fa fn tf (exB_all exs) "TAG_KINDS" tgs h K) : Txt K mg where
  xb := ⟨He.free_ok X G (c.d.fact 0 (f := .free "Exception") rfl), valB_ok (ex_at c.more 0 (exV) rfl)⟩
  d_is_digit := ⟨df_of (c.d.def_ 0 (d := f0) rfl) (fun _ _ _ _ _ _ us hl => match us, hl with | [_], _ => rfl), He.glo_ok X G (c.d.fact 1 (f := .glo "is_digit") rfl)⟩
  d_is_sign := ⟨df_of (c.d.def_ 1 (d := f1) rfl) (fun _ _ _ _ _ _ us hl => match us, hl with | [_], _ => rfl), He.glo_ok X G (c.d.fact 2 (f := .glo "is_sign") rfl)⟩
  d_is_of_word := ⟨df_of (c.d.def_ 2 (d := f2) rfl) (fun _ _ _ _ _ _ us hl => match us, hl with | [_], _ => rfl), He.glo_ok X G (c.d.fact 3 (f := .glo "is_of_word") rfl)⟩
  d_next_character := ⟨df_of (c.d.def_ 3 (d := f3) rfl) (fun _ _ _ _ _ _ us hl => match us, hl with | [_], _ => rfl), He.glo_ok X G (c.d.fact 4 (f := .glo "next_character") rfl)⟩
  d_some_character := ⟨df_of (c.d.def_ 4 (d := f4) rfl) (fun _ _ _ _ _ _ us hl => match us, hl with | [_, _], _ => rfl), He.glo_ok X G (c.d.fact 5 (f := .glo "some_character") rfl)⟩
  d_some_sign := ⟨df_of (c.d.def_ 5 (d := f5) rfl) (fun _ _ _ _ _ _ us hl => match us, hl with | [_, _, _], _ => rfl), He.glo_ok X G (c.d.fact 6 (f := .glo "some_sign") rfl)⟩
  d_lead_shape := ⟨df_of (c.d.def_ 6 (d := f6) rfl) (fun _ _ _ _ _ _ us hl => match us, hl with | [_, _], _ => rfl), He.glo_ok X G (c.d.fact 7 (f := .glo "lead_shape") rfl)⟩
  d_read_character := ⟨df_of (c.d.def_ 7 (d := f7) rfl) (fun _ _ _ _ _ _ us hl => match us, hl with | [_, _, _], _ => rfl), He.glo_ok X G (c.d.fact 8 (f := .glo "read_character") rfl)⟩
  d_read_sign := ⟨df_of (c.d.def_ 8 (d := f8) rfl) (fun _ _ _ _ _ _ us hl => match us, hl with | [_, _, _, _], _ => rfl), He.glo_ok X G (c.d.fact 9 (f := .glo "read_sign") rfl)⟩
  d_read_word := ⟨df_of (c.d.def_ 9 (d := f9) rfl) (fun _ _ _ _ _ _ us hl => match us, hl with | [_, _, _], _ => rfl), He.glo_ok X G (c.d.fact 10 (f := .glo "read_word") rfl)⟩
  d_read_number := ⟨df_of (c.d.def_ 10 (d := f10) rfl) (fun _ _ _ _ _ _ us hl => match us, hl with | [_, _, _, _], _ => rfl), He.glo_ok X G (c.d.fact 11 (f := .glo "read_number") rfl)⟩
  d_can_become := ⟨df_of (c.d.def_ 11 (d := f11) rfl) (fun _ _ _ _ _ _ us hl => match us, hl with | [_, _, _], _ => rfl), He.glo_ok X G (c.d.fact 12 (f := .glo "can_become") rfl)⟩
  c_CheckList := ⟨He.glo_ok X G (c.d.fact 13 (f := .glo "CheckList") rfl), He.cls_ok (c.d.fact 14 (f := .cls "CheckList") rfl), He.mkr_ok (c.d.fact 15 (f := .mkr "CheckList") rfl)⟩
  d_CheckList_init := df_of (c.d.def_ 12 (d := f12) rfl) (fun _ _ _ _ _ _ us hl => match us, hl with | [_], _ => rfl)
  na_CheckList_lines := He.noat_ok (c.d.fact 16 (f := .noat "CheckList" "lines") rfl)
  na_CheckList_asked := He.noat_ok (c.d.fact 17 (f := .noat "CheckList" "asked") rfl)
  na_CheckList_marks := He.noat_ok (c.d.fact 18 (f := .noat "CheckList" "marks") rfl)
  na_CheckList_not_after_blank := He.noat_ok (c.d.fact 19 (f := .noat "CheckList" "not_after_blank") rfl)
  na_CheckList_after_blank := He.noat_ok (c.d.fact 20 (f := .noat "CheckList" "after_blank") rfl)
  na_CheckList_endings := He.noat_ok (c.d.fact 21 (f := .noat "CheckList" "endings") rfl)
  na_CheckList_partners := He.noat_ok (c.d.fact 22 (f := .noat "CheckList" "partners") rfl)
  na_CheckList_brackets := He.noat_ok (c.d.fact 23 (f := .noat "CheckList" "brackets") rfl)
  na_CheckList_most := He.noat_ok (c.d.fact 24 (f := .noat "CheckList" "most") rfl)
  na_CheckList_longer := He.noat_ok (c.d.fact 25 (f := .noat "CheckList" "longer") rfl)
  na_CheckList_ranges := He.noat_ok (c.d.fact 26 (f := .noat "CheckList" "ranges") rfl)
  d_read_checklist := ⟨df_of (c.d.def_ 13 (d := f13) rfl) (fun _ _ _ _ _ _ us hl => match us, hl with | [_], _ => rfl), He.glo_ok X G (c.d.fact 27 (f := .glo "read_checklist") rfl)⟩
  d_read_line := ⟨df_of (c.d.def_ 14 (d := f14) rfl) (fun _ _ _ _ _ _ us hl => match us, hl with | [_, _, _, _], _ => rfl), He.glo_ok X G (c.d.fact 28 (f := .glo "read_line") rfl)⟩
  d_may_repeat := ⟨df_of (c.d.def_ 15 (d := f15) rfl) (fun _ _ _ _ _ _ us hl => match us, hl with | [_, _], _ => rfl), He.glo_ok X G (c.d.fact 29 (f := .glo "may_repeat") rfl)⟩
  d_after_all := ⟨df_of (c.d.def_ 16 (d := f16) rfl) (fun _ _ _ _ _ _ us hl => match us, hl with | [_], _ => rfl), He.glo_ok X G (c.d.fact 30 (f := .glo "after_all") rfl)⟩
  d_read_sort := ⟨df_of (c.d.def_ 17 (d := f17) rfl) (fun _ _ _ _ _ _ us hl => match us, hl with | [_, _, _, _], _ => rfl), He.glo_ok X G (c.d.fact 31 (f := .glo "read_sort") rfl)⟩
  d_read_marks := ⟨df_of (c.d.def_ 18 (d := f18) rfl) (fun _ _ _ _ _ _ us hl => match us, hl with | [_, _, _], _ => rfl), He.glo_ok X G (c.d.fact 32 (f := .glo "read_marks") rfl)⟩
  d_read_mark := ⟨df_of (c.d.def_ 19 (d := f19) rfl) (fun _ _ _ _ _ _ us hl => match us, hl with | [_, _, _], _ => rfl), He.glo_ok X G (c.d.fact 33 (f := .glo "read_mark") rfl)⟩
  d_read_spacing := ⟨df_of (c.d.def_ 20 (d := f20) rfl) (fun _ _ _ _ _ _ us hl => match us, hl with | [_, _, _, _], _ => rfl), He.glo_ok X G (c.d.fact 34 (f := .glo "read_spacing") rfl)⟩
  d_read_ending := ⟨df_of (c.d.def_ 21 (d := f21) rfl) (fun _ _ _ _ _ _ us hl => match us, hl with | [_, _, _], _ => rfl), He.glo_ok X G (c.d.fact 35 (f := .glo "read_ending") rfl)⟩
  d_read_pair := ⟨df_of (c.d.def_ 22 (d := f22) rfl) (fun _ _ _ _ _ _ us hl => match us, hl with | [_, _, _], _ => rfl), He.glo_ok X G (c.d.fact 36 (f := .glo "read_pair") rfl)⟩
  d_read_limit := ⟨df_of (c.d.def_ 23 (d := f23) rfl) (fun _ _ _ _ _ _ us hl => match us, hl with | [_, _, _], _ => rfl), He.glo_ok X G (c.d.fact 37 (f := .glo "read_limit") rfl)⟩
  d_read_range := ⟨df_of (c.d.def_ 24 (d := f24) rfl) (fun _ _ _ _ _ _ us hl => match us, hl with | [_, _, _], _ => rfl), He.glo_ok X G (c.d.fact 38 (f := .glo "read_range") rfl)⟩
  c_Row := ⟨He.glo_ok X G (c.d.fact 39 (f := .glo "Row") rfl), He.cls_ok (c.d.fact 40 (f := .cls "Row") rfl), He.mkr_ok (c.d.fact 41 (f := .mkr "Row") rfl)⟩
  d_Row_init := df_of (c.d.def_ 25 (d := f25) rfl) (fun _ _ _ _ _ _ us hl => match us, hl with | [_, _], _ => rfl)
  na_Row_pieces := He.noat_ok (c.d.fact 42 (f := .noat "Row" "pieces") rfl)
  na_Row_places := He.noat_ok (c.d.fact 43 (f := .noat "Row" "places") rfl)
  na_Row_characters := He.noat_ok (c.d.fact 44 (f := .noat "Row" "characters") rfl)
  na_Row_words := He.noat_ok (c.d.fact 45 (f := .noat "Row" "words") rfl)
  d_find_runs := ⟨df_of (c.d.def_ 26 (d := f26) rfl) (fun _ _ _ _ _ _ us hl => match us, hl with | [_], _ => rfl), He.glo_ok X G (c.d.fact 46 (f := .glo "find_runs") rfl)⟩
  d_read_piece := ⟨df_of (c.d.def_ 27 (d := f27) rfl) (fun _ _ _ _ _ _ us hl => match us, hl with | [_, _], _ => rfl), He.glo_ok X G (c.d.fact 47 (f := .glo "read_piece") rfl)⟩
  d_read_pieces := ⟨df_of (c.d.def_ 28 (d := f28) rfl) (fun _ _ _ _ _ _ us hl => match us, hl with | [_, _], _ => rfl), He.glo_ok X G (c.d.fact 48 (f := .glo "read_pieces") rfl)⟩
  d_read_row := ⟨df_of (c.d.def_ 29 (d := f29) rfl) (fun _ _ _ _ _ _ us hl => match us, hl with | [_], _ => rfl), He.glo_ok X G (c.d.fact 49 (f := .glo "read_row") rfl)⟩
  d_is_mark_at := ⟨df_of (c.d.def_ 30 (d := f30) rfl) (fun _ _ _ _ _ _ us hl => match us, hl with | [_, _, _], _ => rfl), He.glo_ok X G (c.d.fact 50 (f := .glo "is_mark_at") rfl)⟩
  d_digits_end := ⟨df_of (c.d.def_ 31 (d := f31) rfl) (fun _ _ _ _ _ _ us hl => match us, hl with | [_, _], _ => rfl), He.glo_ok X G (c.d.fact 51 (f := .glo "digits_end") rfl)⟩
  d_whole_end := ⟨df_of (c.d.def_ 32 (d := f32) rfl) (fun _ _ _ _ _ _ us hl => match us, hl with | [_, _, _], _ => rfl), He.glo_ok X G (c.d.fact 52 (f := .glo "whole_end") rfl)⟩
  d_fraction_end := ⟨df_of (c.d.def_ 33 (d := f33) rfl) (fun _ _ _ _ _ _ us hl => match us, hl with | [_, _, _], _ => rfl), He.glo_ok X G (c.d.fact 53 (f := .glo "fraction_end") rfl)⟩
  d_digits_of := ⟨df_of (c.d.def_ 34 (d := f34) rfl) (fun _ _ _ _ _ _ us hl => match us, hl with | [_], _ => rfl), He.glo_ok X G (c.d.fact 54 (f := .glo "digits_of") rfl)⟩
  d_value_of := ⟨df_of (c.d.def_ 35 (d := f35) rfl) (fun _ _ _ _ _ _ us hl => match us, hl with | [_, _], _ => rfl), He.glo_ok X G (c.d.fact 55 (f := .glo "value_of") rfl)⟩
  d_find_figures := ⟨df_of (c.d.def_ 36 (d := f36) rfl) (fun _ _ _ _ _ _ us hl => match us, hl with | [_, _], _ => rfl), He.glo_ok X G (c.d.fact 56 (f := .glo "find_figures") rfl)⟩
  d_refuse_long := ⟨df_of (c.d.def_ 37 (d := f37) rfl) (fun _ _ _ _ _ _ us hl => match us, hl with | [_, _], _ => rfl), He.glo_ok X G (c.d.fact 57 (f := .glo "refuse_long") rfl)⟩
  d_read_text := ⟨df_of (c.d.def_ 38 (d := f38) rfl) (fun _ _ _ _ _ _ us hl => match us, hl with | [_, _, _], _ => rfl), He.glo_ok X G (c.d.fact 58 (f := .glo "read_text") rfl)⟩
  d_number := ⟨df_of (c.d.def_ 39 (d := f39) rfl) (fun _ _ _ _ _ _ us hl => match us, hl with | [_, _, _, _], _ => rfl), He.glo_ok X G (c.d.fact 59 (f := .glo "number") rfl)⟩
  d_figure_at := ⟨df_of (c.d.def_ 40 (d := f40) rfl) (fun _ _ _ _ _ _ us hl => match us, hl with | [_, _, _, _], _ => rfl), He.glo_ok X G (c.d.fact 60 (f := .glo "figure_at") rfl)⟩
  cd := cd_of (c.d.def_ 8 (d := f8) rfl)
  stuck := ex1_of (ex_at c.more 1 (exB "Stuck" "place") rfl) (He.glo_ok X G (c.d.fact 61 (f := .glo "Stuck") rfl))
  stuckI := it_of (x := "__init__") (q := "Stuck.__init__") (st := inn (top 1) 0) (c.d.def_ 41 (d := f41) rfl) fun _ _ _ _ _ _ _ _ _ lk h => ⟨by refine ⟨_, _, _, _, _, _, _, _, _, _, _, _, _, _, _, _, _, _, _, _, _, _, _, ?_, lk, h⟩; rfl⟩
  ref := ref_of (ex_at c.more 2 (refB) rfl) (He.glo_ok X G (c.d.fact 62 (f := .glo "Refusal") rfl)) (it_of (x := "__init__") (q := "Refusal.__init__") (st := inn (top 2) 0) (c.d.def_ 42 (d := f42) rfl) fun _ _ _ _ _ _ _ _ _ lk h => ⟨by refine ⟨_, _, _, _, _, _, _, _, _, _, _, _, _, _, _, _, _, _, _, _, _, _, _, ?_, lk, h⟩; rfl⟩)
  wrong := ex1_of (ex_at c.more 3 (exB "WrongText" "answer") rfl) (He.glo_ok X G (c.d.fact 63 (f := .glo "WrongText") rfl))
  wrongI := it_of (x := "__init__") (q := "WrongText.__init__") (st := inn (top 5) 0) (c.d.def_ 43 (d := f43) rfl) fun _ _ _ _ _ _ _ _ _ lk h => ⟨by refine ⟨_, _, _, _, _, _, _, _, _, _, _, _, _, _, _, _, _, _, _, _, _, _, _, ?_, lk, h⟩; rfl⟩
  e_TooMuch := ex1_of (ex_at c.more 4 (exB "TooMuch" "answer") rfl) (He.glo_ok X G (c.d.fact 64 (f := .glo "TooMuch") rfl))
  eI_TooMuch := it_of (x := "__init__") (q := "TooMuch.__init__") (st := inn (top 6) 0) (c.d.def_ 44 (d := f44) rfl) fun _ _ _ _ _ _ _ _ _ lk h => ⟨by refine ⟨_, _, _, _, _, _, _, _, _, _, _, _, _, ⟨0, 0, 0, 0⟩, ⟨0, 0, 0, 0⟩, _, _, _, _, _, _, ?_, lk, h⟩; rfl⟩
  e_WrongSide := ex1_of (ex_at c.more 5 (exB "WrongSide" "answer") rfl) (He.glo_ok X G (c.d.fact 65 (f := .glo "WrongSide") rfl))
  eI_WrongSide := it_of (x := "__init__") (q := "WrongSide.__init__") (st := inn (top 3) 0) (c.d.def_ 45 (d := f45) rfl) fun _ _ _ _ _ _ _ _ _ lk h => ⟨by refine ⟨_, _, _, _, _, _, _, _, _, _, _, _, _, ⟨0, 0, 0, 0⟩, ⟨0, 0, 0, 0⟩, _, _, _, _, _, _, ?_, lk, h⟩; rfl⟩
  e_NoSuchNumber := ex1_of (ex_at c.more 6 (exB "NoSuchNumber" "answer") rfl) (He.glo_ok X G (c.d.fact 66 (f := .glo "NoSuchNumber") rfl))
  eI_NoSuchNumber := it_of (x := "__init__") (q := "NoSuchNumber.__init__") (st := inn (top 4) 0) (c.d.def_ 46 (d := f46) rfl) fun _ _ _ _ _ _ _ _ _ lk h => ⟨by refine ⟨_, _, _, _, _, _, _, _, _, _, _, _, _, ⟨0, 0, 0, 0⟩, ⟨0, 0, 0, 0⟩, _, _, _, _, _, _, ?_, lk, h⟩; rfl⟩
  fld_Stuck := ⟨xfB_ok (ex_at c.more 7 (fun K => xfB K (ga K "Stuck")) rfl), He.noat_ok (c.d.fact 67 (f := .noat "Stuck" "place") rfl)⟩
  xm_Stuck_Stuck := He.exm_ok (c.d.fact 68 (f := .exm "Stuck" "Stuck" true) rfl)
  g_Refusal := He.glo_ok X G (c.d.fact 62 (f := .glo "Refusal") rfl)
  fld_WrongText := ⟨xfB_ok (ex_at c.more 8 (fun K => xfB K (ga K "WrongText")) rfl), He.noat_ok (c.d.fact 69 (f := .noat "WrongText" "answer") rfl)⟩
  xm_WrongText_Refusal := He.exm_ok (c.d.fact 70 (f := .exm "WrongText" "Refusal" true) rfl)
  fld_TooMuch := ⟨xfB_ok (ex_at c.more 9 (fun K => xfB K (ga K "TooMuch")) rfl), He.noat_ok (c.d.fact 71 (f := .noat "TooMuch" "answer") rfl)⟩
  xm_TooMuch_Refusal := He.exm_ok (c.d.fact 72 (f := .exm "TooMuch" "Refusal" true) rfl)
  fld_WrongSide := ⟨xfB_ok (ex_at c.more 10 (fun K => xfB K (ga K "WrongSide")) rfl), He.noat_ok (c.d.fact 73 (f := .noat "WrongSide" "answer") rfl)⟩
  xm_WrongSide_Refusal := He.exm_ok (c.d.fact 74 (f := .exm "WrongSide" "Refusal" true) rfl)
  fld_NoSuchNumber := ⟨xfB_ok (ex_at c.more 11 (fun K => xfB K (ga K "NoSuchNumber")) rfl), He.noat_ok (c.d.fact 75 (f := .noat "NoSuchNumber" "answer") rfl)⟩
  xm_NoSuchNumber_Refusal := He.exm_ok (c.d.fact 76 (f := .exm "NoSuchNumber" "Refusal" true) rfl)
  n_dict := He.free_ok X G (c.d.fact 77 (f := .free "dict") rfl)
  n_enumerate := He.free_ok X G (c.d.fact 78 (f := .free "enumerate") rfl)
  n_len := He.free_ok X G (c.d.fact 79 (f := .free "len") rfl)
  n_list := He.free_ok X G (c.d.fact 80 (f := .free "list") rfl)
  n_max := He.free_ok X G (c.d.fact 81 (f := .free "max") rfl)
  n_min := He.free_ok X G (c.d.fact 82 (f := .free "min") rfl)
  n_ord := He.free_ok X G (c.d.fact 83 (f := .free "ord") rfl)
  n_range := He.free_ok X G (c.d.fact 84 (f := .free "range") rfl)
  n_tuple := He.free_ok X G (c.d.fact 85 (f := .free "tuple") rfl)
  i_BLANK := int_c (He.int_ok X G (c.d.fact 86 (f := .int "BLANK" 32) rfl))
  i_LAST_NUMBER := int_c (He.int_ok X G (c.d.fact 87 (f := .int "LAST_NUMBER" 1114111) rfl))
  i_LAST_SIGN := int_c (He.int_ok X G (c.d.fact 88 (f := .int "LAST_SIGN" 12351) rfl))
  g_SIGN_RANGES := He.glo_ok X G (c.d.fact 89 (f := .glo "SIGN_RANGES") rfl)
  t_SIGN_RANGES := prsA_ok (ex_at c.more 12 (fun K => prsA K (ga K "SIGN_RANGES") [(33, 47), (58, 64), (91, 96), (123, 126), (161, 191), (215, 215), (247, 247), (8208, 8303), (12288, 12351)]) rfl)
  g_WORDS := He.glo_ok X G (c.d.fact 90 (f := .glo "WORDS") rfl)
  t_WORDS := tupA_ok (ex_at c.more 13 (fun K => tupA K (ga K "WORDS") [.str "empty", .str "same", .str "tags", .str "numbers", .str "blanks", .str "nobefore", .str "before", .str "end", .str "pair", .str "twice", .str "most", .str "longer", .str "not"]) rfl)
  i_MOST_LINES_OF_A_SORT := int_c (He.int_ok X G (c.d.fact 91 (f := .int "MOST_LINES_OF_A_SORT" 64) rfl))
  i_LARGEST_MOST := int_c (He.int_ok X G (c.d.fact 92 (f := .int "LARGEST_MOST" 4096) rfl))
  i_LARGEST_LONGER := int_c (He.int_ok X G (c.d.fact 93 (f := .int "LARGEST_LONGER" 100000) rfl))
  i_NO_MARK := int_c (He.int_ok X G (c.d.fact 94 (f := .int "NO_MARK" 0) rfl))
  i_CHARACTER := int_c (He.int_ok X G (c.d.fact 95 (f := .int "CHARACTER" 0) rfl))
  g_TAG_KINDS := He.glo_ok X G (c.d.fact 96 (f := .glo "TAG_KINDS") rfl)
  i_MOST_TAG_NUMBER := int_c (He.int_ok X G (c.d.fact 97 (f := .int "MOST_TAG_NUMBER" 999) rfl))
  i_MOST_PIECES := int_c (He.int_ok X G (c.d.fact 98 (f := .int "MOST_PIECES" 4096) rfl))
  i_BRACE := int_c (He.int_ok X G (c.d.fact 99 (f := .int "BRACE" 123) rfl))
  i_LINE_END := int_c (He.int_ok X G (c.d.fact 100 (f := .int "LINE_END" 10) rfl))
  i_ZERO := int_c (He.int_ok X G (c.d.fact 101 (f := .int "ZERO" 48) rfl))
  i_POINT := int_c (He.int_ok X G (c.d.fact 102 (f := .int "POINT" 46) rfl))
  i_MOST_LEADING := int_c (He.int_ok X G (c.d.fact 103 (f := .int "MOST_LEADING" 3) rfl))
  i_MOST_BYTES := int_c (He.int_ok X G (c.d.fact 104 (f := .int "MOST_BYTES" 4096) rfl))
  i_LIST_TEXT := int_c (He.int_ok X G (c.d.fact 105 (f := .int "LIST_TEXT" 1) rfl))
  i_FIRST_ROW_TEXT := int_c (He.int_ok X G (c.d.fact 106 (f := .int "FIRST_ROW_TEXT" 2) rfl))
end Tc
/-! The end of a row of the spec whose defs make code objects: tables and dicts of ints stand beside the arguments. -/
namespace Tc
open PySem L2 PySem.Spec PyProof.Rows
open PySem.W (WData WellAll OpenSpec Codec)
/-- the abstract heap with the empty tables and a dict beside -/
def withD (csz : List (Addr × Addr)) (dz : Addr) (dob : Obj) (kvz : List (L2.Key × V)) (H : Hp) : Hp := fun b => if b ∈ csz.map (·.2) then some (.tbl #[]) else if b = dz then some (.frz dob (.dK kvz)) else H b
theorem rdE {H H' : Hp} {a : Addr} {u : HO} (e : ∀ b u, H b = some u → H' b = some u) (hz : Rd H a u) : Rd H' a u := hz.elim (fun hz => .inl (e _ _ hz)) fun ⟨o, hz⟩ => .inr ⟨o, e _ _ hz⟩
theorem sqE {K : PySem.W.Frag} {H H' : Hp} {a : Addr} {xs : List V} (e : ∀ b u, H b = some u → H' b = some u) (hz : SqL K H a xs) : SqL K H' a xs := hz.elim (fun hz => .inl (rdE e hz)) .inr
theorem sqF {K : PySem.W.Frag} {H H' : Hp} {a : Addr} {xs : List V} (e : ∀ b u, H b = some u → H' b = some u) (hz : SqT K H a xs) : SqT K H' a xs := hz.elim (fun hz => .inl (rdE e hz)) .inr
mutual
theorem dw_ext {K : PySem.W.Frag} {H H' : Hp} (e : ∀ b u, H b = some u → H' b = some u) : ∀ (d : WData) (v : V), Dw K H v d → Dw K H' v d
  | .none, _, x => by cases x; exact .non
  | .bool _, _, x => by cases x; exact .bl _
  | .int _, _, x => by cases x; exact .int _
  | .str _, _, x => by cases x; exact .str _
  | .bytes _, _, x => by cases x; exact .byt _
  | .list ds, _, x => by
    cases x with
    | lst h1z h2z => exact .lst (sqE e h1z) (dws_ext e ds _ h2z)
  | .tuple ds, _, x => by
    cases x with
    | tup h1z h2z => exact .tup (sqF e h1z) (dws_ext e ds _ h2z)
  | .float _, _, x => by cases x
  | .dict _, _, x => by cases x
  | .bytearray _, _, x => by cases x
  | .set _, _, x => by cases x
  | .frozenset _, _, x => by cases x
  | .obj _ _, _, x => by cases x
theorem dws_ext {K : PySem.W.Frag} {H H' : Hp} (e : ∀ b u, H b = some u → H' b = some u) : ∀ (ds : List WData) (vs : List V), DwAll K H vs ds → DwAll K H' vs ds
  | [], _, x => by cases x; exact .nil
  | d :: ds, _, x => by
    cases x with
    | cons a b => exact .cons (dw_ext e d _ a) (dws_ext e ds _ b)
end
/-- the call -/
theorem spec_callD {P : Program} {w : World} {K : PySem.W.Frag} {mg mbz : Str → Option Value} {CX : CXT} {k : Nat} {faz : Addr} {fdz : FuncData} {ps : List Str} {sp : Sp} {s₁ : Shared} {valsz : List Value} {ds : List WData} {R : PySem.W.WRecords} {cl : Str → Option Addr} {d0 : WData} {csz : List (Addr × Addr)} {dz : Addr} {dob : Obj} {pz : Int × Int} {psz : List (Int × Int)}
    (KX : K.In s₁.heap) (hns : s₁.heap.Ns mainGlobals mg) (hbz : s₁.heap.Ns builtinsNs mbz) (hbb : ∀ x : Str, x ≠ "__name__" → mbz x = bootBuiltins x) (hlim : s₁.heap.NoLimit) (hgz : s₁.gens = #[])
    (hTz : ∀ p ∈ csz, s₁.heap.get? p.2 = some { cls := .none, data := .fields #[] }) (nTz : ∀ p ∈ csz, K.lookup p.2 = none) (C : ∀ p ∈ csz, PySem.W.CodeHd s₁.heap p.1 p.2)
    (hdz : s₁.heap.get? dz = some dob) (hdb : dicB (pz :: psz) dob = true) (hds : (dz == sysModules) = false) (ndz : K.lookup dz = none) (hdl : (pz :: psz).length ≤ 64) (hdn : ((pz :: psz).map fun p => (Sum.inl p.1 : L2.Key)).Nodup)
    (hbm : ∃ (bmz : Addr) (obz : Obj), mg "__builtins__" = some (.ref bmz) ∧ bmz ≠ builtinsNs ∧ s₁.heap.get? bmz = some obz ∧ obz.cls = .type "module" ∧ obz.dict = some builtinsNs ∧ obz.data = .plain)
    (hwlz : WellAll w.params s₁.heap valsz ds) (hpl : plWs ds = true) (hwt : ∀ d ∈ ds, d.weight ≤ 1048576) (hr : Room k callerA)
    (F : ∀ base : Heap, K.In base → base.Ns mainGlobals mg → (∀ p ∈ csz, LamX.TabB base mg p.1 p.2) → FnOk P w K mg base CX k faz fdz ps sp) (hbind : ∀ (s : Shared) (us : List Value), us.length = ps.length → BindsTo s fdz ⟨us, []⟩ (ps.zip us)) (hlen : ds.length = ps.length)
    (hspz : ∀ (H : Hp) (xs : List V), (∀ p ∈ csz, H p.2 = some (.tbl #[])) → H dz = some (.frz dob (.dK (dicH (pz :: psz)))) → DwAll K H xs ds → sp xs H (fun v H' => Dw K H' v d0) fun _ _ _ => False)
    (hCX : ∀ H e sz', CX [] H s₁ (fun _ _ _ => False) e sz' → False) :
    codeAny (model P w) callerA (.call (.ref faz) ⟨valsz, []⟩) (fun r sz' => ∃ u as, r = .ok (.ret u) ∧ PySem.W.ReadsW R cl sz'.heap u d0 as ∧ OldK s₁.heap sz'.heap ∧ sz'.os = s₁.os ∧ AllBare sz'.gens) s₁ := by
  obtain ⟨A, hoz, arz⟩ := area_all ds valsz hwlz hpl hwt
  have hO0z : OnlyF (argH K s₁.heap A) := argH_only arz
  have hok0z : HOk P w (argH K s₁.heap A) s₁.heap := argH_ok arz
  have hS0z := dw_all KX arz ds valsz hwlz hpl hoz
  have hVz := vals_toV hoz
  have hK0z : ∀ b u, argH K s₁.heap A b = some u → K.lookup b = none := fun b u q => (argH_is arz q).1
  have isTz : ∀ b : Addr, b ∈ csz.map (·.2) → s₁.heap.get? b = some { cls := .none, data := .fields #[] } := fun b hbz => by
    obtain ⟨p, hpz, e⟩ := List.mem_map.mp hbz
    rw [← e]
    exact hTz p hpz
  -- what the arguments track is a sequence
  have seq0z : ∀ b u, argH K s₁.heap A b = some u → ∃ (o : Obj) (itsz : Array Value) (n : Nat), s₁.heap.get? b = some o ∧ o.data = .seq itsz n := fun b u q => by
    obtain ⟨_, vs, _, _, ⟨e2z, _⟩ | ⟨e2z, _⟩⟩ := argH_is arz q
    · exact ⟨_, _, _, e2z, rfl⟩
    · exact ⟨_, _, _, e2z, rfl⟩
  have apart : ∀ b u, argH K s₁.heap A b = some u → b ∉ csz.map (·.2) := fun b u q zz => by
    obtain ⟨o, itsz, n, e, edz⟩ := seq0z b u q
    rw [isTz b zz] at e
    cases e
    cases edz
  have memTz : ∀ p ∈ csz, p.2 ∈ csz.map (·.2) := fun p hpz => List.mem_map.mpr ⟨p, hpz, rfl⟩
  obtain ⟨desz, depz, ddat⟩ := dicB_data hdb
  have dzT : dz ∉ csz.map (·.2) := fun zz => by
    rw [isTz dz zz] at hdz
    cases hdz
    cases ddat
  have dzA : argH K s₁.heap A dz = none := by
    cases q : argH K s₁.heap A dz with
    | none => rfl
    | some u =>
      obtain ⟨o, itsz, n, e, edz⟩ := seq0z dz u q
      rw [hdz] at e
      cases e
      rw [ddat] at edz
      cases edz
  have wT : ∀ b, b ∈ csz.map (·.2) → withD csz dz dob (dicH (pz :: psz)) (argH K s₁.heap A) b = some (.tbl #[]) := fun b zz => if_pos zz
  have wD : withD csz dz dob (dicH (pz :: psz)) (argH K s₁.heap A) dz = some (.frz dob (.dK (dicH (pz :: psz)))) := (if_neg dzT).trans (if_pos rfl)
  have wO : ∀ b, b ∉ csz.map (·.2) → b ≠ dz → withD csz dz dob (dicH (pz :: psz)) (argH K s₁.heap A) b = argH K s₁.heap A b := fun b h1z h2z => (if_neg h1z).trans (if_neg h2z)
  have hHz : ∀ p ∈ csz, withD csz dz dob (dicH (pz :: psz)) (argH K s₁.heap A) p.2 = some (.tbl #[]) := fun p hpz => wT _ (memTz p hpz)
  have hSz := dws_ext (H' := withD csz dz dob (dicH (pz :: psz)) (argH K s₁.heap A)) (fun b u q => by rw [wO b (apart b u q) (fun zz => by rw [zz, dzA] at q; cases q)]; exact q) ds _ hS0z
  have hOz : ∀ b, withD csz dz dob (dicH (pz :: psz)) (argH K s₁.heap A) b = none ∨ b ∈ csz.map (·.2) ∨ ∃ o u, withD csz dz dob (dicH (pz :: psz)) (argH K s₁.heap A) b = some (.frz o u) := fun b => by
    by_cases zz : b ∈ csz.map (·.2)
    · exact .inr (.inl zz)
    · by_cases yy : b = dz
      · rw [yy]
        exact .inr (.inr ⟨_, _, wD⟩)
      · rw [wO b zz yy]
        rcases hO0z b with hz | hz
        · exact .inl hz
        · exact .inr (.inr hz)
  have hokz : HOk P w (withD csz dz dob (dicH (pz :: psz)) (argH K s₁.heap A)) s₁.heap := fun b u q => by
    by_cases zz : b ∈ csz.map (·.2)
    · rw [wT b zz] at q
      cases q
      exact isTz b zz
    · by_cases yy : b = dz
      · rw [yy, wD] at q
        cases q
        rw [yy]
        exact dicB_ok hdz hdb hds hdl hdn
      · rw [wO b zz yy] at q
        obtain ⟨_, vs, h1z, h2z, ⟨e, rfl⟩ | ⟨e, rfl⟩⟩ := argH_is arz q
        · exact ⟨e, by rw [List.length_map]; exact h1z, vs, _, vals_toV h2z, e⟩
        · exact ⟨e, by rw [List.length_map]; exact h1z, vs, vals_toV h2z, _, e, rfl, _, rfl⟩
  have hKz : ∀ b u, withD csz dz dob (dicH (pz :: psz)) (argH K s₁.heap A) b = some u → K.lookup b = none := fun b u q => by
    by_cases zz : b ∈ csz.map (·.2)
    · obtain ⟨p, hpz, epz⟩ := List.mem_map.mp zz
      rw [← epz]
      exact nTz p hpz
    · by_cases yy : b = dz
      · rw [yy]
        exact ndz
      · rw [wO b zz yy] at q
        exact hK0z b u q
  have noDz : ∀ {b : Addr} {o : Obj}, s₁.heap.get? b = some o → (∀ vs n, o.data ≠ .seq vs n) → o.data ≠ .fields #[] → b ≠ dz → withD csz dz dob (dicH (pz :: psz)) (argH K s₁.heap A) b = none := fun {b o} e h1z h2z yy => by
    by_cases zz : b ∈ csz.map (·.2)
    · rw [isTz b zz] at e
      cases e
      exact (h2z rfl).elim
    · rw [wO b zz yy]; cases q : argH K s₁.heap A b with
      | none => rfl
      | some u =>
        obtain ⟨o2z, itsz, n, e2z, edz⟩ := seq0z b u q
        rw [e] at e2z
        cases e2z
        exact (h1z _ _ edz).elim
  generalize withD csz dz dob (dicH (pz :: psz)) (argH K s₁.heap A) = H at hOz hokz hSz hKz noDz hHz wD
  have noAz : ∀ {b : Addr} {m : Str → Option Value}, s₁.heap.Ns b m → H b = none := fun {b m} hnb => by
    obtain ⟨o, esz, epz, e, d, _⟩ := id hnb
    refine noDz e (fun vs n zz => ?_) (fun zz => ?_) fun zz => ?_
    · rw [d] at zz
      cases zz
    · rw [d] at zz
      cases zz
    · rw [zz] at hnb
      exact dicB_ns hdz hdb hnb
  have base_of : ∀ {b : Addr} {o : Obj}, s₁.heap.get? b = some o → H b = none → (hidT s₁.heap H).get? b = some o := fun e n => hidT_get e n; have nsKz : ∀ {b : Addr} {m : Str → Option Value}, s₁.heap.Ns b m → (hidT s₁.heap H).Ns b m := fun {b m} hnb => let ⟨o, esz, epz, e, d, r⟩ := id hnb; ⟨o, esz, epz, base_of e (noAz hnb), d, r⟩
  have nKz : ∀ b o, K.lookup b = some o → H b = none := fun b o e => by
    cases q : H b with
    | none => rfl
    | some u =>
      rw [hKz b u q] at e
      cases e
  have hKbz : K.In (hidT s₁.heap H) := fun b o e => base_of (KX b o e) (nKz b o e)
  have hMz : L2.Mod K mg (hidT s₁.heap H) := ⟨hKbz, nsKz hns, ⟨mbz, nsKz hbz, hbb⟩, let ⟨mc, h1z, h2z⟩ := hlim; ⟨mc, nsKz h1z, h2z⟩⟩
  have TB : ∀ p ∈ csz, LamX.TabB (hidT s₁.heap H) mg p.1 p.2 := fun p hpz => by
    have hTpz := hTz p hpz
    refine ⟨?_, ?_, fun zz => ?_⟩
    · obtain ⟨o, us, filez, tfz, flags, tgz, inFz, textz, ttz, e1z, r1z, r2z, r3z, r4z, r5z, r6z, r7z, r8z, hnez⟩ := C p hpz
      refine ⟨o, us, filez, tfz, flags, tgz, inFz, textz, ttz, base_of e1z (noDz e1z (fun vs n zz => ?_) (fun zz => ?_) fun zz => ?_), r1z, r2z, r3z, r4z, r5z, r6z, r7z, r8z, hnez⟩
      · rw [r2z] at zz
        cases zz
      · rw [r2z] at zz
        cases zz
        simp at r3z
      · rw [zz, hdz] at e1z
        cases e1z
        rw [ddat] at r2z
        cases r2z
    · obtain ⟨bmz, obz, b1z, b2z, b3z, b4z, b5z, b6z⟩ := hbm
      have nGz : bmz ≠ mainGlobals := fun q => by
        obtain ⟨o, esz, epz, e, hdz, _⟩ := hns
        rw [q, e] at b3z
        cases b3z
        rw [hdz] at b6z
        cases b6z
      have nPz : bmz ≠ p.2 := fun q => by
        rw [q, hTpz] at b3z
        cases b3z
        cases b6z
      refine ⟨bmz, obz, b1z, b2z, nGz, nPz, base_of b3z (noDz b3z (fun vs n zz => ?_) (fun zz => ?_) fun zz => ?_), b4z, b5z, b6z⟩
      · rw [b6z] at zz
        cases zz
      · rw [b6z] at zz
        cases zz
      · rw [zz, hdz] at b3z
        cases b3z
        rw [ddat] at b6z
        cases b6z
    · obtain ⟨o, esz, epz, e, hdz, _⟩ := hns
      rw [zz, hTpz] at e
      cases e
      cases hdz
  have e0z : Env0 P w K mg (hidT s₁.heap H) callerA [] s₁ H := ⟨rfl, hMz, fun b o e => of_hidT e, Nat.le_of_eq (hidT_size _ _), trivial, fun b hbz => absurd (show b ∈ ([] : List Addr) from hbz) (by simp), hokz, .of_eq hgz⟩
  have hlz : valsz.length = ps.length := by rw [wellAll_len hwlz]; exact hlen
  refine codeAny_mono ((F _ hKbz (nsKz hns) TB).run callerA [] s₁ H ⟨valsz, []⟩ valsz (valsz.map toV) _ _ hr e0z (hbind s₁ valsz hlz) hVz (hspz H _ hHz wD hSz)) fun r sz' x => ?_
  cases r with
  | error e => exact (hCX H e sz' x).elim
  | ok fl =>
    cases fl with
    | next => exact False.elim x
    | brk => exact False.elim x
    | cont => exact False.elim x
    | ret u =>
      obtain ⟨v, H', osz, barez, unz, hokz', rz', q⟩ := x
      have keyz : ∀ b o, b ∉ csz.map (·.2) → s₁.heap.get? b = some o → sz'.heap.get? b = some o := fun b o nbz e => by
        cases q2 : H b with
        | none => exact unz.keep b o e q2 (by intro zz; exact absurd (show b ∈ ([] : List Addr) from zz) (by simp)) (by simp)
        | some u2 =>
          rcases hOz b with zz | zz | ⟨obz, u3z, zz⟩
          · rw [q2] at zz; cases zz
          · exact absurd zz nbz
          · have z2z := unz.frzs b obz _ zz
            obtain ⟨e1z, _⟩ := hokz b _ zz
            obtain ⟨e2z, _⟩ := hokz' b _ z2z
            rw [e] at e1z; cases e1z
            exact e2z
      have grown : ∀ p ∈ csz, ∃ more : Array Value, sz'.heap.get? p.2 = some { cls := .none, data := .fields more } := fun p hpz => by
        obtain ⟨more, zz⟩ := unz.tbls p.2 #[] (hHz p hpz)
        exact ⟨_, hokz' p.2 _ zz⟩
      have KX' : K.In sz'.heap := fun b o e => keyz b o (fun zz => by
        obtain ⟨p, hpz, epz⟩ := List.mem_map.mp zz
        rw [← epz, nTz p hpz] at e
        cases e) (KX b o e)
      obtain ⟨as, hrdz⟩ := Dw.reads (R := R) (cl := cl) hokz' KX' d0 v u q rz'
      refine ⟨u, as, rfl, hrdz, ⟨fun b o e => ?_, fun b o e => ?_⟩, osz, barez⟩
      · by_cases hbz : b ∈ csz.map (·.2)
        · obtain ⟨p, hpz, epz⟩ := List.mem_map.mp hbz
          obtain ⟨more, hmz⟩ := grown p hpz
          rw [← epz] at e ⊢
          rw [hTz p hpz] at e
          cases e
          exact .inr (.inl ⟨((C p hpz).tab (hTz p hpz)).isCodeTable, rfl, #[], more, rfl, by rw [Array.empty_append]; exact hmz⟩)
        · exact .inl (keyz b o hbz e)
      · by_cases hbz : b ∈ csz.map (·.2)
        · obtain ⟨p, hpz, epz⟩ := List.mem_map.mp hbz
          obtain ⟨more, hmz⟩ := grown p hpz
          rw [← epz]
          exact ⟨_, hmz⟩
        · exact ⟨o, keyz b o hbz e⟩
/-- what is known of the row's promise at the head's heap hz -/
def SpecD (r : PySem.W.OpenSpec) (w : World) (K : PySem.W.Frag) (CX : CXT) (k : Nat) (ps : List Str) (mg : Str → Option Value) (faz : Addr) (hz : Heap) : Prop :=
  ∃ (fdz : FuncData) (csz : List (Addr × Addr)) (dz : Addr) (dob : Obj) (pz : Int × Int) (psz : List (Int × Int)) (sp : Sp), (hz.get? dz = some dob ∧ dicB (pz :: psz) dob = true ∧ (dz == sysModules) = false ∧ K.lookup dz = none ∧ (pz :: psz).length ≤ 64 ∧ ((pz :: psz).map fun p => (Sum.inl p.1 : L2.Key)).Nodup) ∧ (∀ p ∈ csz, hz.get? p.2 = some { cls := .none, data := .fields #[] }) ∧ (∀ p ∈ csz, K.lookup p.2 = none) ∧ (∀ p ∈ csz, PySem.W.CodeHd hz p.1 p.2) ∧ (∀ (s : Shared) (us : List Value), us.length = ps.length → BindsTo s fdz ⟨us, []⟩ (ps.zip us)) ∧
    (∀ (H : Hp) (xs : List V) (a : PySem.W.Codec.denoteAll r.args), (∀ p ∈ csz, H p.2 = some (.tbl #[])) → H dz = some (.frz dob (.dK (dicH (pz :: psz)))) → PySem.W.Codec.withinAll r.args a = true → PySem.W.Codec.app r.args r.asked a = true → DwAll K H xs (PySem.W.Codec.encAll r.args a) → sp xs H (fun v H' => Dw K H' v (r.ret.enc (PySem.W.Codec.app r.args r.f a))) fun _ _ _ => False) ∧
    ∀ base : Heap, K.In base → base.Ns mainGlobals mg → (∀ p ∈ csz, LamX.TabB base mg p.1 p.2) → FnOk r.prog w K mg base CX k faz fdz ps sp
open PySem.W in
theorem walk_specD {r : OpenSpec} {k : Nat} {q : Program} {loose : List Str} {XP : (Str → Option Value) → Heap → Prop} {YP : World → Heap → Prop} {d : DefRec} {CX : World → CXT} {ps : List Str}
    (hwell : r.wellSaid = true) (hlen : r.args.length = ps.length) (hr : Room k callerA)
    (F : ∀ (w : World) (mg : Str → Option Value) (faz : Addr) (hz : Heap), YP w hz → hz.Ns mainGlobals mg → mg d.name = some (.ref faz) → ∃ K : PySem.W.Frag, K.In hz ∧ SpecD r w K (CX w) k ps mg faz hz)
    (hCX : ∀ (w : World) (H : Hp) (s : Shared) (e : Value) (sz' : Shared), CX w [] H s (fun _ _ _ => False) e sz' → False) : PySem.W.WalkOS q loose XP YP r d [] (fun f vs => PySem.call f vs) := by
  intro w s₀ s₁ mg mbz G Y faz o pmz cdz docz dVz kVz hoz hdz hcdz hDz hmgz hgz argsz valsz as hprez hlayz hrdz hwlz hloz
  obtain ⟨a, e1z, e2z⟩ := PySem.W.os_pre_some hprez
  obtain ⟨e3z, hwiz⟩ := Codec.encAll_of_decAll r.args argsz a e1z
  subst e3z
  obtain ⟨K, KX, fdz, csz, dz, dob, pz, psz, sp, ⟨hdz, hdb, hds, ndz, hdl, hdn⟩, hTz, nTz, C, hbz, hspz, hFz⟩ := F w mg faz _ Y G.T.g hmgz
  refine PySem.W.enter_call (codeAny_mono (spec_callD (R := []) (cl := classAt s₀.heap) (d0 := r.ret.enc (Codec.app r.args r.f a)) KX G.T.g G.T.b G.T.builtins G.T.nolimit hgz hTz nTz C hdz hdb hds ndz hdl hdn G.T.bmain hwlz (pl_encAll _ _) (layable_weight hlayz) hr hFz hbz (by rw [encAll_len]; exact hlen)
    (fun H xs hHz hDz hSz => hspz H xs a hHz hDz hwiz e2z hSz) fun H e sz' => hCX w H s₁ e sz') fun rz' sz' hqz => ?_)
  obtain ⟨u, asz', rfl, h1z, h2z, h3z, h4z⟩ := hqz
  exact ⟨.inl ⟨u, _, asz', rfl, fun _ => rfl, h1z, (OpenSpec.post_iff hwell hwiz _ _).mpr rfl, fun zz => Bool.noConfusion (show false = true from zz)⟩, h2z, h3z, h4z⟩
end Tc
namespace Tc
open PySem PySem.Spec PyProof.Rows L2 Fh FhCheck
variable {K : PySem.W.Frag} {mg : Str → Option Value} {base : Heap} {P : Program} {w : World}
def spWord (K : PySem.W.Frag) : Sp := fun vs H Q E => ∃ (a : Addr) (b w : Bytes) (p : Nat), vs = [.ref a, .int p, .str (tx w)] ∧ SqL K H a (bv b) ∧ Res K (rWord b p w) H E fun q H' => Q (.int (q : Nat)) H'
theorem ok_read_word (T : Txt K mg) : FnOk P w K mg base (L2N.CX P w) 4 (ga K "read_word") (fd K "read_word") ["data", "place", "word"] (spWord K) := by
  refine okN T.d_read_word.fn sc_read_word (fun vs H Q E h => by obtain ⟨_, _, _, _, rfl, _⟩ := h; rfl) fun cdv A outer s H vs Q E hcd hr h => ?_
  refine ⟨_, (pss_cons (ps_for PassesOwn.leaving rfl (pi_str (pv 2)) (pg_name (i := 3) sc_read_word.nd rfl (Or.inl rfl)) (pss_cons (ps_if (PW.pt (pw_or (pt_cmpR op_ge (pv 1) (pe_callB call_len (by rfl) T.n_len (by decide +kernel) (pa_cons (pv 0) pa_nil)) (nomark _)) (pw_or1 (pt_cmpR op_ne (pe_ix ix_list (pv 0) (pv 1) (fun _ _ => rfl)) (pe_callB call_ord (by rfl) T.n_ord (by decide +kernel) (pa_cons (pv 3) pa_nil)) (nomark _))))) (pss_one (L2N.ps_raise rfl tkN (pmk_stuck T.xb T.stuck T.stuckI (by exact Nat.lt_of_le_of_lt (Nat.add_le_add_left (by decide : 10 ≤ 3 * 3 + 5) _) hr.dp) (by exact (pa_cons (pv 1) pa_nil))).pmk)) pss_nil) (pss_one (ps_aug (i := 1) sc_read_word.nd rfl (Or.inl rfl) pe_int ip_add)))) (pss_one (ps_ret (pv 1)))), ?_⟩
  obtain ⟨a, b, w, p, rfl, hS, h⟩ := h
  refine ⟨_, rfl, _, rfl, for_it walk_str (fun i σ H' => H' = H ∧ ∃ o, σ = [some (.ref a), some (.int ((p + i : Nat) : Int)), some (.str (tx w)), o] ∧ i ≤ common w (b.drop p)) ⟨rfl, _, rfl, Nat.zero_le _⟩ (fun _ _ _ _ _ => trivial) ?_ ?_⟩
  · rintro i x σ H1 H2 hi ⟨rfl, o, rfl, hc⟩ ⟨rfl, c, hw, rfl⟩
    obtain ⟨hw, hc8⟩ := tx_at hw
    have bad : b[p + i]? ≠ some (UInt8.ofNat c) → Stk K H2 E (p + i) := fun z => by
      obtain ⟨e1, e2⟩ := common_at (l := b.drop p) hc hw (by rw [List.getElem?_drop]; exact z)
      have h' := h
      rw [rWord, e2, if_neg Bool.false_ne_true, e1] at h'
      exact h'
    refine ⟨_, rfl, _, rfl, _, _, rfl, len_b hS, _, _, rfl, rfl, _, rfl, ite2 (fun h1 => ?_) fun h1 => ?_⟩
    · refine ⟨_, rfl, _, rfl, fun d hd => (bad ?_).at hd⟩
      simp at h1
      rw [List.getElem?_eq_none (by omega)]; simp
    · simp at h1
      obtain ⟨x, hx⟩ := lt_some (l := b) (i := p + i) (by omega)
      refine ⟨_, rfl, _, rfl, _, _, _, _, rfl, rfl, hS, bv_at hx, _, rfl, _, rfl, rfl, rfl, _, rfl, ite2 (fun h2 => ?_) fun h2 => ?_⟩
      · refine ⟨_, rfl, _, rfl, fun d hd => (bad fun z => ?_).at hd⟩
        rw [hx] at z
        cases z
        simp [hc8] at h2
      · have ex : x = UInt8.ofNat c := by
          simp at h2
          rw [← (by omega : x.toNat = c)]
          simp
        refine ⟨_, rfl, _, _, rfl, rfl, rfl, _, rfl, common_up hc hw (by rw [List.getElem?_drop, hx, ex])⟩
  · rintro σ H1 ⟨rfl, o, rfl, hc⟩
    rw [tx_size] at hc ⊢
    rw [rWord, if_pos (pre_of hc)] at h
    exact ⟨_, rfl, h.ok⟩
/-- lead_shape: how many bytes go on, the head's own bits, the least number -/
def leadShape (c : Nat) : Option (Nat × Nat × Nat) := if c < 128 then some (0, c, 0) else if c < 192 ∨ 248 ≤ c then none else if c < 224 then some (1, c % 32, 128) else if c < 240 then some (2, c % 16, 2048) else some (3, c % 8, 65536)
def rLead (c p : Nat) : R (Nat × Nat × Nat) := match leadShape c with
  | some x => .ok x
  | none => .error p
def spLead (K : PySem.W.Frag) : Sp := fun vs H Q E => ∃ c p : Nat, vs = [.int c, .int p] ∧ Res K (rLead c p) H E fun x H' => ∀ t, H' t = some (.tup [.int ((6 * x.1 : Nat) : Int), .int (x.2.1 : Nat), .int (x.2.2 : Nat)]) → Q (.ref t) H'
theorem and31 (c : Nat) : Builtin.bitAnd (c : Int) 31 = ((c % 32 : Nat) : Int) := by rw [PyProof.Rows.bitAnd_m5]; omega
theorem and15 (c : Nat) : Builtin.bitAnd (c : Int) 15 = ((c % 16 : Nat) : Int) := by rw [PyProof.Rows.bitAnd_m4]; omega
theorem and7 (c : Nat) : Builtin.bitAnd (c : Int) 7 = ((c % 8 : Nat) : Int) := by rw [PyProof.Rows.bitAnd_m3]; omega
theorem and63 (c : Nat) : Builtin.bitAnd (c : Int) 63 = ((c % 64 : Nat) : Int) := by rw [PyProof.Rows.bitAnd_m6]; omega
theorem ok_lead_shape (T : Txt K mg) : FnOk P w K mg base (L2N.CX P w) 4 (ga K "lead_shape") (fd K "lead_shape") ["lead", "place"] (spLead K) := by
  refine okN T.d_lead_shape.fn sc_lead_shape (fun vs H Q E h => by obtain ⟨_, _, rfl, _⟩ := h; rfl) fun cdv A outer s H vs Q E hcd hr h => ?_
  refine ⟨_, (pss_cons (ps_if (pt_cmpR op_lt (pv 0) pe_int (nomark _)) (pss_one (ps_ret (pe_tup (pa_cons pe_int (pa_cons (pv 0) (pa_cons pe_int pa_nil)))))) pss_nil) (pss_cons (ps_if (PW.pt (pw_or (pt_cmpR op_lt (pv 0) pe_int (nomark _)) (pw_or1 (pt_cmpR op_ge (pv 0) pe_int (nomark _))))) (pss_one (L2N.ps_raise rfl tkN (pmk_stuck T.xb T.stuck T.stuckI (by exact Nat.lt_of_le_of_lt (Nat.add_le_add_left (by decide : 10 ≤ 3 * 3 + 5) _) hr.dp) (by exact (pa_cons (pv 1) pa_nil))).pmk)) pss_nil) (pss_cons (ps_if (pt_cmpR op_lt (pv 0) pe_int (nomark _)) (pss_one (ps_ret (pe_tup (pa_cons pe_int (pa_cons (pe_op op_and (pv 0) pe_int) (pa_cons pe_int pa_nil)))))) pss_nil) (pss_cons (ps_if (pt_cmpR op_lt (pv 0) pe_int (nomark _)) (pss_one (ps_ret (pe_tup (pa_cons pe_int (pa_cons (pe_op op_and (pv 0) pe_int) (pa_cons pe_int pa_nil)))))) pss_nil) (pss_one (ps_ret (pe_tup (pa_cons pe_int (pa_cons (pe_op op_and (pv 0) pe_int) (pa_cons pe_int pa_nil)))))))))), ?_⟩
  obtain ⟨c, p, rfl, h⟩ := h
  unfold rLead leadShape at h
  refine ⟨_, rfl, _, _, rfl, rfl, _, rfl, ite2 (fun h1 => ?_) fun h1 => ?_⟩
  · simp at h1
    rw [if_pos (by omega)] at h
    refine ⟨_, rfl, by show 3 ≤ sizeLine; decide, fun t ht => ?_⟩
    exact h.okS (.new ht) t upd_same
  simp at h1
  rw [if_neg (by omega)] at h
  refine ⟨_, rfl, _, _, rfl, rfl, _, rfl, ite2 (fun h2 => ?_) fun h2 => ?_⟩
  · simp at h2
    rw [if_pos (by omega)] at h
    exact ⟨_, rfl, _, rfl, fun d hd => h.err.at hd⟩
  refine ⟨_, rfl, _, _, rfl, rfl, _, rfl, ite2 (fun h3 => ?_) fun h3 => ?_⟩
  · simp at h3
    rw [if_pos (by omega)] at h
    exact ⟨_, rfl, _, rfl, fun d hd => h.err.at hd⟩
  simp at h2 h3
  rw [if_neg (by omega)] at h
  refine ⟨_, rfl, _, _, rfl, rfl, _, rfl, ite2 (fun h4 => ?_) fun h4 => ?_⟩
  · simp at h4
    rw [if_pos (by omega)] at h
    refine ⟨_, rfl, _, _, rfl, rfl, by show 3 ≤ sizeLine; decide, fun t ht => ?_⟩
    exact h.okS (.new ht) t (upd_same.trans (by show some (HO.tup [V.int 6, V.int (Builtin.bitAnd (c : Int) 31), V.int 128]) = _; rw [and31] <;> rfl))
  simp at h4
  rw [if_neg (by omega)] at h
  refine ⟨_, rfl, _, _, rfl, rfl, _, rfl, ite2 (fun h5 => ?_) fun h5 => ?_⟩
  · simp at h5
    rw [if_pos (by omega)] at h
    refine ⟨_, rfl, _, _, rfl, rfl, by show 3 ≤ sizeLine; decide, fun t ht => ?_⟩
    exact h.okS (.new ht) t (upd_same.trans (by show some (HO.tup [V.int 12, V.int (Builtin.bitAnd (c : Int) 15), V.int 2048]) = _; rw [and15] <;> rfl))
  simp at h5
  rw [if_neg (by omega)] at h
  refine ⟨_, rfl, _, _, rfl, rfl, by show 3 ≤ sizeLine; decide, fun t ht => ?_⟩
  exact h.okS (.new ht) t (upd_same.trans (by show some (HO.tup [V.int 18, V.int (Builtin.bitAnd (c : Int) 7), V.int 65536]) = _; rw [and7] <;> rfl))
/-- can_become -/
def spCan (K : PySem.W.Frag) : Sp := fun vs H Q E => ∃ v lo hi : Nat, vs = [.int v, .int lo, .int hi] ∧ hi < 10000000 ∧ Q (.bl (begins lo hi v)) H
theorem begins_pos {lo hi v : Nat} (h : v ≠ 0) : begins lo hi v = (List.range 8).any fun (k : Nat) => decide (v * 10 ^ k ≤ hi) && decide (lo ≤ v * 10 ^ k + (10 ^ k - 1)) := if_neg h
theorem begins_no {lo hi v j : Nat} (h : v ≠ 0) (hj : j ≤ 8) (h1 : ∀ i, i < j → ¬ (v * 10 ^ i ≤ hi ∧ lo ≤ v * 10 ^ i + (10 ^ i - 1))) (h2 : hi < v * 10 ^ j) : begins lo hi v = false := by
  rw [begins_pos h, List.any_eq_false]
  intro k hk; simp only [Bool.and_eq_true, decide_eq_true_eq]
  by_cases hkj : k < j
  · exact h1 k hkj
  · rintro ⟨a, _⟩
    have : v * 10 ^ j ≤ v * 10 ^ k := Nat.mul_le_mul_left v (Nat.pow_le_pow_right (by decide) (by omega))
    omega
theorem ok_can_become (T : Txt K mg) : FnOk P w K mg base CX0 1 (ga K "can_become") (fd K "can_become") ["value", "least", "most"] (spCan K) := by
  refine T.d_can_become.fn.ok sc_can_become (fun vs H Q E h => by obtain ⟨_, _, _, rfl, _⟩ := h; rfl) fun cdv A outer s H vs Q E hr h => ?_
  refine ⟨_, (pss_cons (ps_if (pt_cmpR op_eq (pv 0) pe_int (nomark _)) (pss_one (ps_ret (pe_cmpR op_eq (pv 1) pe_int (nomark _)))) pss_nil) (pss_cons (ps_set (i := 3) sc_can_become.nd rfl (Or.inl rfl) (pv 0)) (pss_cons (ps_set (i := 4) sc_can_become.nd rfl (Or.inl rfl) (pv 0)) (pss_cons (ps_while PassesOwn.never (pt_cmpR op_le (pv 3) (pv 2) (nomark _)) (pss_cons (ps_if (pt_cmpR op_ge (pv 4) (pv 1) (nomark _)) (pss_one (ps_ret pe_bl)) pss_nil) (pss_cons (ps_set (i := 3) sc_can_become.nd rfl (Or.inl rfl) (pe_op op_mul (pv 3) pe_int)) (pss_one (ps_set (i := 4) sc_can_become.nd rfl (Or.inl rfl) (pe_op op_add (pe_op op_mul (pv 4) pe_int) pe_int)))))) (pss_one (ps_ret pe_bl)))))), ?_⟩
  obtain ⟨v, lo, hi, rfl, hb, q⟩ := h
  refine ⟨_, rfl, rfl, _, rfl, ite2 (fun h1 => ?_) fun h1 => ?_⟩
  · have e : v = 0 := by simpa using h1
    subst e
    refine ⟨_, rfl, rfl, ?_⟩
    have e : decide (V.int (lo : Int) = V.int 0) = begins lo hi 0 := by
      simp [begins]
    exact e ▸ q
  have v0 : v ≠ 0 := by
    simp at h1
    omega
  refine ⟨_, rfl, _, rfl, ?_⟩
  refine ⟨fun m σ H' => H' = H ∧ ∃ j, m = 8 - j ∧ j ≤ 8 ∧ σ = [some (.int v), some (.int lo), some (.int hi), some (.int ((v * 10 ^ j : Nat) : Int)), some (.int ((v * 10 ^ j + (10 ^ j - 1) : Nat) : Int))] ∧ ∀ i, i < j → ¬ (v * 10 ^ i ≤ hi ∧ lo ≤ v * 10 ^ i + (10 ^ i - 1)), ⟨8, rfl, 0, rfl, by decide, by simp; rfl, fun i hi => by omega⟩, ?_⟩
  rintro m σ Hz ⟨rfl, j, rfl, hj, rfl, hn⟩
  refine ⟨_, rfl, _, rfl, _, _, rfl, rfl, _, rfl, ite2 (fun h2 => ?_) fun h2 => ?_⟩
  · have h2 : v * 10 ^ j ≤ hi := by
      simp only [decide_eq_true_eq] at h2
      omega
    have hj8 : j < 8 := by
      refine Nat.lt_of_not_le fun z => ?_
      have e : j = 8 := by omega
      subst e
      have := Nat.mul_le_mul_right (10 ^ 8) (Nat.pos_of_ne_zero v0)
      omega
    have p10 : 10 ^ j ≤ v * 10 ^ j := Nat.le_mul_of_pos_left _ (Nat.pos_of_ne_zero v0)
    refine ⟨fun σ' H' => ∃ m', m' < 8 - j ∧ (H' = Hz ∧ ∃ j, m' = 8 - j ∧ j ≤ 8 ∧ σ' = [some (.int v), some (.int lo), some (.int hi), some (.int ((v * 10 ^ j : Nat) : Int)), some (.int ((v * 10 ^ j + (10 ^ j - 1) : Nat) : Int))] ∧ ∀ i, i < j → ¬ (v * 10 ^ i ≤ hi ∧ lo ≤ v * 10 ^ i + (10 ^ i - 1))), fun _ _ z => z, ?_⟩
    refine ⟨_, rfl, _, rfl, _, _, rfl, rfl, _, rfl, ite2 (fun h3 => ?_) fun h3 => ?_⟩
    · have h3 : lo ≤ v * 10 ^ j + (10 ^ j - 1) := by
        simp only [decide_eq_true_eq] at h3
        omega
      have e : begins lo hi v = true := by
        rw [begins_pos v0, List.any_eq_true]
        exact ⟨j, List.mem_range.mpr hj8, by simp [h2, h3]⟩
      exact e ▸ q
    have h3 : ¬ lo ≤ v * 10 ^ j + (10 ^ j - 1) := by
      simp only [decide_eq_true_eq] at h3
      omega
    have e1 : v * 10 ^ (j + 1) = v * 10 ^ j * 10 := by rw [Nat.pow_succ, Nat.mul_assoc]
    have e2 : 10 ^ (j + 1) = 10 ^ j * 10 := Nat.pow_succ ..
    have e3 : 0 < 10 ^ j := Nat.pow_pos (by decide)
    refine ⟨_, rfl, _, _, rfl, rfl, .inl ⟨by omega, by omega⟩, ?_⟩
    refine ⟨_, rfl, _, _, rfl, rfl, .inl ⟨by omega, by omega⟩, _, _, rfl, rfl, 8 - (j + 1), by omega, rfl, j + 1, rfl, hj8, ?_, fun i hi' => ?_⟩
    · show [_, _, _, some (V.int _), some (V.int _)] = _
      rw [e1, e2, show ((v * 10 ^ j * 10 : Nat) : Int) = ((v * 10 ^ j : Nat) : Int) * 10 by omega, show ((v * 10 ^ j * 10 + (10 ^ j * 10 - 1) : Nat) : Int) = ((v * 10 ^ j + (10 ^ j - 1) : Nat) : Int) * 10 + 9 by omega]
    · by_cases z : i < j
      · exact hn i z
      · have e : i = j := by omega
        subst e
        exact fun z => h3 z.2
  · have h2 : hi < v * 10 ^ j := by
      simp only [decide_eq_true_eq] at h2
      omega
    exact (begins_no v0 hj hn h2) ▸ q
end Tc
namespace Tc
open PySem PySem.Spec PyProof.Rows L2 Fh FhCheck
variable {K : PySem.W.Frag} {mg : Str → Option Value} {base : Heap} {P : Program} {w : World}
/-! ### dicts of numbers -/
def tr (ks : List Nat) : List (Key × V) := ks.map fun (c : Nat) => (Sum.inl (c : Int), V.bl true)
/-- a dict whose keys are numbers, each True -/
def DK (H : Hp) (d : Addr) (ks : List Nat) : Prop := H d = some (.dK (tr ks))
theorem tr_val (c : Nat) : ∀ ks : List Nat, (valV (tr ks) (Sum.inl (c : Int))).isSome = ks.contains c
  | [] => rfl
  | k :: ks => by
    have ih := tr_val c ks
    by_cases e : k = c
    · subst e
      rw [show tr (k :: ks) = (Sum.inl (k : Int), V.bl true) :: tr ks from rfl, valV_pos rfl]
      simp
    · have e1 : ¬ (Sum.inl (k : Int) : Key) = Sum.inl (c : Int) := fun z => e (by injection z with z; omega)
      rw [show tr (k :: ks) = (Sum.inl (k : Int), V.bl true) :: tr ks from rfl, valV_neg (p := (Sum.inl (k : Int), V.bl true)) e1, ih]
      have e2 : ¬ c = k := fun z => e z.symm
      simp [e2]
theorem tr_put {c : Nat} {ks : List Nat} (h : ks.contains c = false) : putK (tr ks) (Sum.inl (c : Int)) (.bl true) = tr (ks ++ [c]) := by
  have e : ((tr ks).any fun kv => decide (kv.1 = (Sum.inl (c : Int) : Key))) = false := by rw [valV_any, tr_val, h]
  unfold putK
  rw [e, if_neg Bool.false_ne_true]; simp [tr]
theorem tr_len (ks : List Nat) : (tr ks).length = ks.length := List.length_map _
theorem DK.get {H : Hp} {d : Addr} {ks : List Nat} (h : DK H d ks) (c : Nat) : DGet H d (.int (c : Int)) (valV (tr ks) (Sum.inl (c : Int))) := DGet.k (k := Sum.inl (c : Int)) h
/-! ### signs -/
def rangesL : List (Nat × Nat) := [(33, 47), (58, 64), (91, 96), (123, 126), (161, 191), (215, 215), (247, 247), (8208, 8303), (12288, 12351)]
theorem signs_eq : FhCheck.signs = rangesL.flatMap fun x => span x.1 x.2 := by decide +kernel
theorem mem_span {a b c : Nat} : c ∈ span a b ↔ a ≤ c ∧ c ≤ b := by
  unfold span
  rw [List.mem_map]
  constructor
  · rintro ⟨k, hk, rfl⟩
    have := List.mem_range.mp hk
    omega
  · intro h
    exact ⟨c - a, List.mem_range.mpr (by omega), by omega⟩
def goodSign (lo hi : Nat) (ks : List Nat) (c : Nat) : Bool := decide (lo ≤ c) && (decide (c ≤ hi) && !ks.contains c)
/-- some_sign -/
def someSign (lo hi : Nat) (ks : List Nat) : Bool := FhCheck.signs.any (goodSign lo hi ks)
def spSome (K : PySem.W.Frag) : Sp := fun vs H Q E => ∃ (lo hi : Nat) (d : Addr) (ks : List Nat), vs = [.int lo, .int hi, .ref d] ∧ lo < 2 ^ 40 ∧ DK H d ks ∧ Q (.bl (someSign lo hi ks)) H
theorem flat_take {i : Nat} {x : Nat × Nat} {p : Nat → Prop} (hx : rangesL[i]? = some x) (h : ∀ c ∈ (rangesL.take i).flatMap fun x => span x.1 x.2, p c) (h2 : ∀ c ∈ span x.1 x.2, p c) : ∀ c ∈ (rangesL.take (i + 1)).flatMap fun x => span x.1 x.2, p c := by
  rw [List.take_add_one, hx]
  intro c hc
  rw [List.flatMap_append, List.mem_append] at hc
  rcases hc with hc | hc
  · exact h c hc
  · exact h2 c (by simpa using hc)
theorem ok_some_sign (T : Txt K mg) : FnOk P w K mg base CX0 1 (ga K "some_sign") (fd K "some_sign") ["low", "high", "barred"] (spSome K) := by
  refine T.d_some_sign.fn.ok sc_some_sign (fun vs H Q E h => by obtain ⟨_, _, _, _, rfl, _⟩ := h; rfl) fun cdv A outer s H vs Q E hr h => ?_
  refine ⟨_, (pss_cons (ps_for PassesOwn.never rfl (pi_tup (pe_glob (v := .ref (ga K "SIGN_RANGES")) rfl T.g_SIGN_RANGES rfl)) (pg_tup rfl (pgs_cons (pg_name (i := 3) sc_some_sign.nd rfl (Or.inl rfl)) (pgs_cons (pg_name (i := 4) sc_some_sign.nd rfl (Or.inl rfl)) pgs_nil))) (pss_one (ps_for PassesOwn.never rfl (pi_range2 rfl T.n_range (pa_cons (pe_callB (call_max2 rfl) (by rfl) T.n_max (by decide +kernel) (pa_cons (pv 3) (pa_cons (pv 0) pa_nil))) (pa_cons (pe_op op_add (pe_callB (call_min2 rfl) (by rfl) T.n_min (by decide +kernel) (pa_cons (pv 4) (pa_cons (pv 1) pa_nil))) pe_int) pa_nil))) (pg_name (i := 5) sc_some_sign.nd rfl (Or.inl rfl)) (pss_one (ps_if (pt_cmp (pc_dnotin (hu_of hr) (pv 5) (pv 2))) (pss_one (ps_ret pe_bl)) pss_nil))))) (pss_one (ps_ret pe_bl))), ?_⟩
  obtain ⟨lo, hi, d, ks, rfl, hlo, hD, q⟩ := h
  obtain ⟨ts, ht, hlen, hat⟩ := T.t_SIGN_RANGES
  refine ⟨_, rfl, ⟨_, ht H⟩, for_tup (xs := ts.map V.ref) (fun i σ H' => H' = H ∧ (∃ o1 o2 o3, σ = [some (.int lo), some (.int hi), some (.ref d), o1, o2, o3]) ∧ ∀ c ∈ (rangesL.take i).flatMap (fun x => span x.1 x.2), goodSign lo hi ks c = false) ⟨rfl, ⟨_, _, _, rfl⟩, by simp⟩ (fun _ _ H' _ _ => ht H') ?_ ?_⟩
  · rintro i x σ Hz hx ⟨rfl, ⟨o1, o2, o3, rfl⟩, hno⟩
    rw [List.getElem?_map] at hx
    obtain ⟨t, hti, rfl⟩ := Option.map_eq_some_iff.mp hx
    have hi9 : i < rangesL.length := by
      obtain ⟨z, _⟩ := List.getElem?_eq_some_iff.mp hti
      exact hlen ▸ z
    obtain ⟨⟨a, b⟩, hab⟩ := lt_some hi9
    obtain ⟨t', ht', tk⟩ := hat i (a, b) hab
    rw [hti] at ht'
    cases ht'
    have hb : b < 2 ^ 40 := by
      have : ∀ y ∈ rangesL, y.2 < 2 ^ 40 := by decide
      exact this _ (List.mem_of_getElem? hab)
    have ha : a < 2 ^ 40 := by
      have : ∀ y ∈ rangesL, y.1 < 2 ^ 40 := by decide
      exact this _ (List.mem_of_getElem? hab)
    refine ⟨t, _, rfl, tk _, rfl, _, _, rfl, _, _, rfl, rfl, ?_⟩
    refine ⟨_, rfl, _, rfl, _, _, rfl, _, rfl, _, rfl, _, _, rfl, _, _, rfl, rfl, _, _, rfl, ⟨?_, ?_, ?_, ?_⟩, ?_⟩
    · show -(2 ^ 62) ≤ (if (lo : Int) > (a : Int) then (lo : Int) else (a : Int))
      split <;> omega
    · show (if (lo : Int) > (a : Int) then (lo : Int) else (a : Int)) < 2 ^ 62
      split <;> omega
    · show -(2 ^ 62) ≤ (if (hi : Int) < (b : Int) then (hi : Int) else (b : Int)) + 1
      split <;> omega
    · show (if (hi : Int) < (b : Int) then (hi : Int) else (b : Int)) + 1 < 2 ^ 62
      split <;> omega
    have e1 : (if (lo : Int) > (a : Int) then (lo : Int) else (a : Int)) = ((max a lo : Nat) : Int) := by split <;> omega
    have e2 : (if (hi : Int) < (b : Int) then (hi : Int) else (b : Int)) + 1 = ((min b hi + 1 : Nat) : Int) := by split <;> omega
    show ∃ W, _
    rw [e1, e2]
    refine for_range (lo := ((max a lo : Nat) : Int)) (n := (((min b hi + 1 : Nat) : Int) - ((max a lo : Nat) : Int)).toNat) (fun j σ H' => H' = Hz ∧ (∃ o3, σ = [some (.int lo), some (.int hi), some (.ref d), some (.int a), some (.int b), o3]) ∧ ∀ k, k < j → goodSign lo hi ks (max a lo + k) = false) ⟨rfl, ⟨_, rfl⟩, fun k hk => by omega⟩ ?_ ?_
    · rintro j σ Hy hj ⟨rfl, ⟨o4, rfl⟩, hno2⟩
      have hj : j < min b hi + 1 - max a lo := by omega
      have cst : ((max a lo : Nat) : Int) + (j : Int) = ((max a lo + j : Nat) : Int) := by omega
      rw [cst]
      refine ⟨_, rfl, _, rfl, d, _, rfl, hD.get _, _, rfl, ite2 (fun h1 => ?_) fun h1 => ?_⟩
      · rw [tr_val] at h1
        have e : someSign lo hi ks = true := by
          rw [someSign, List.any_eq_true]
          refine ⟨max a lo + j, ?_, ?_⟩
          · rw [signs_eq, List.mem_flatMap]
            exact ⟨(a, b), List.mem_of_getElem? hab, mem_span.mpr (by dsimp only; omega)⟩
          · simp only [goodSign, Bool.and_eq_true, decide_eq_true_eq]
            exact ⟨by omega, by omega, h1⟩
        rw [e] at q
        exact q
      · rw [tr_val] at h1
        refine ⟨rfl, ⟨_, rfl⟩, fun k hk => ?_⟩
        by_cases z : k < j
        · exact hno2 k z
        · have e : k = j := by omega
          subst e
          simp only [goodSign]
          simp only [Bool.not_eq_true, Bool.not_eq_false'] at h1
          simp only [h1, Bool.not_true, Bool.and_false]
    · rintro σ Hy ⟨rfl, ⟨o4, rfl⟩, hno2⟩
      refine ⟨rfl, ⟨_, _, _, rfl⟩, flat_take hab hno fun c hc => ?_⟩
      have hc := mem_span.mp hc
      dsimp only at hc
      by_cases z : lo ≤ c ∧ c ≤ hi
      · have := hno2 (c - max a lo) (by omega)
        rw [show max a lo + (c - max a lo) = c by omega] at this
        exact this
      · simp only [goodSign, Bool.and_eq_false_iff, decide_eq_false_iff_not]
        omega
  · rintro σ Hz ⟨rfl, ⟨o1, o2, o3, rfl⟩, hno⟩
    have e : someSign lo hi ks = false := by
      rw [someSign, List.any_eq_false, signs_eq]
      intro c hc
      rw [List.length_map, hlen] at hno
      rw [hno c hc]
      exact Bool.false_ne_true
    rw [e] at q
    exact q
/-! ### numbers -/
def rnGo (lo hi : Nat) : Bytes → Nat → Nat → R (Nat × Nat)
  | [], k, v => if k = 0 ∨ v < lo then .error k else .ok (v, k)
  | c :: r, k, v => if isDigit c = true then (if (k ≠ 0 ∧ v = 0) ∨ begins lo hi (10 * v + (c.toNat - 48)) = false then .error k else rnGo lo hi r (k + 1) (10 * v + (c.toNat - 48)))
    else if k = 0 ∨ v < lo then .error k else .ok (v, k)
/-- from a place on -/
def offR {α : Type} (p : Nat) : R (α × Nat) → R (α × Nat)
  | .ok x => .ok (x.1, p + x.2)
  | .error k => .error (p + k)
/-- read_number -/
def rNum (b : Bytes) (p lo hi : Nat) : R (Nat × Nat) := offR p (rnGo lo hi (b.drop p) 0 0)
theorem digit_iff (c : UInt8) : isDigit c = true ↔ 48 ≤ c.toNat ∧ c.toNat ≤ 57 := by
  unfold isDigit
  rw [Bool.and_eq_true, decide_eq_true_eq, decide_eq_true_eq, UInt8.le_iff_toNat_le, UInt8.le_iff_toNat_le]
  exact Iff.rfl
theorem u8_lt (c : UInt8) : c.toNat < 256 := c.toNat_lt
def digB : Bytes → Bool
  | [] => false
  | c :: _ => isDigit c
theorem ans_use {t : TT} {σ : L2.St} {H : Hp} {b : Bool} {Q : Bool → Hp → Prop} (h : ∀ Q : Bool → Hp → Prop, Q b H → t σ H Q) (q : Q b H) : t σ H Q := h Q q
def invNum (a : Addr) (b : Bytes) (p lo hi : Nat) (H : Hp) (m : Nat) (σ : L2.St) (H' : Hp) : Prop := H' = H ∧ ∃ (k v : Nat) (o : Option V), m = b.length - (p + k) ∧ σ = [some (.ref a), some (.int p), some (.int lo), some (.int hi), some (.int (v : Nat)), some (.int ((p + k : Nat) : Int)), o] ∧ v < 10000000 ∧ rnGo lo hi (b.drop p) 0 0 = rnGo lo hi (b.drop (p + k)) k v
theorem begins_lt {lo hi v : Nat} (h : begins lo hi v = true) (hh : hi < 10000000) : v < 10000000 := by
  by_cases v0 : v = 0
  · subst v0
    decide
  · rw [begins_pos v0, List.any_eq_true] at h
    obtain ⟨k, _, h⟩ := h
    simp only [Bool.and_eq_true, decide_eq_true_eq] at h; have : v ≤ v * 10 ^ k := Nat.le_mul_of_pos_right v (Nat.pow_pos (by decide))
    omega
def spNum (K : PySem.W.Frag) : Sp := fun vs H Q E => ∃ (a : Addr) (b : Bytes) (p lo hi : Nat), vs = [.ref a, .int p, .int lo, .int hi] ∧ SqL K H a (bv b) ∧ hi < 10000000 ∧
  Res K (rNum b p lo hi) H E fun x H' => ∀ t, H' t = some (.tup [.int (x.1 : Nat), .int (x.2 : Nat)]) → Q (.ref t) H'
theorem ok_read_number (T : Txt K mg) : FnOk P w K mg base (L2N.CX P w) 4 (ga K "read_number") (fd K "read_number") ["data", "start", "least", "most"] (spNum K) := by
  refine okN T.d_read_number.fn sc_read_number (fun vs H Q E h => by obtain ⟨_, _, _, _, _, rfl, _⟩ := h; rfl) fun cdv A outer s H vs Q E hcd hr h => ?_
  refine ⟨_, (pss_cons (ps_set (i := 4) sc_read_number.nd rfl (Or.inl rfl) pe_int) (pss_cons (ps_set (i := 5) sc_read_number.nd rfl (Or.inl rfl) (pv 1)) (pss_cons (ps_while PassesOwn.leaving (PW.pt (pw_and (pt_cmpR op_lt (pv 5) (pe_callB call_len (by rfl) T.n_len (by decide +kernel) (pa_cons (pv 0) pa_nil)) (nomark _)) (pw_and1 (pt_chain op_le op_le pe_int (pe_ix ix_list (pv 0) (pv 5) (fun _ _ => rfl)) pe_int)))) (pss_cons (ps_set (i := 6) sc_read_number.nd rfl (Or.inl rfl) (pe_and (pe_cmpR op_gt (pv 5) (pv 1) (nomark _)) (pe_one (pe_cmpR op_eq (pv 4) pe_int (nomark _))))) (pss_cons (ps_set (i := 4) sc_read_number.nd rfl (Or.inl rfl) (pe_op op_sub (pe_op op_add (pe_op op_mul (pv 4) pe_int) (pe_ix ix_list (pv 0) (pv 5) (fun _ _ => rfl))) pe_int)) (pss_cons (ps_if (PW.pt (pw_or (pt_val (pv 6)) (pw_or1 (pt_not (pt_val (pe_call (ok_can_become T) (hr.mono (by decide)) rfl T.d_can_become.g T.d_can_become.k T.d_can_become.b .nil pass0 (pa_cons (pv 4) (pa_cons (pv 2) (pa_cons (pv 3) pa_nil))))))))) (pss_one (L2N.ps_raise rfl tkN (pmk_stuck T.xb T.stuck T.stuckI (by exact Nat.lt_of_le_of_lt (Nat.add_le_add_left (by decide : 10 ≤ 3 * 3 + 5) _) hr.dp) (by exact (pa_cons (pv 5) pa_nil))).pmk)) pss_nil) (pss_one (ps_aug (i := 5) sc_read_number.nd rfl (Or.inl rfl) pe_int ip_add)))))) (pss_cons (ps_if (PW.pt (pw_or (pt_cmpR op_eq (pv 5) (pv 1) (nomark _)) (pw_or1 (pt_cmpR op_lt (pv 4) (pv 2) (nomark _))))) (pss_one (L2N.ps_raise rfl tkN (pmk_stuck T.xb T.stuck T.stuckI (by exact Nat.lt_of_le_of_lt (Nat.add_le_add_left (by decide : 10 ≤ 3 * 3 + 5) _) hr.dp) (by exact (pa_cons (pv 5) pa_nil))).pmk)) pss_nil) (pss_one (ps_ret (pe_tup (pa_cons (pv 4) (pa_cons (pv 5) pa_nil))))))))), ?_⟩
  obtain ⟨a, b, p, lo, hi, rfl, hS, hhi, h⟩ := h
  unfold rNum at h
  refine ⟨_, rfl, ?_⟩
  refine ⟨invNum a b p lo hi H, ⟨_, rfl, 0, 0, _, rfl, rfl, by decide, rfl⟩, ?_⟩
  rintro m σ H' ⟨eH, k, v, o, rfl, rfl, hv, he⟩
  subst eH
  rw [he] at h
  refine ans_use (b := digB (b.drop (p + k))) (fun Q' q' => ?_) ?_
  · refine ⟨_, rfl, _, rfl, _, _, rfl, len_b hS, _, _, rfl, rfl, _, rfl, ite2 (fun h1 => ?_) fun h1 => ?_⟩
    · simp at h1
      obtain ⟨c, hc⟩ := lt_some (l := b) (i := p + k) (by omega)
      rw [drop_at hc] at q'
      refine ⟨_, rfl, _, rfl, _, _, _, _, rfl, rfl, hS, bv_at hc, _, _, rfl, rfl, _, rfl, ite2 (fun h2 => ?_) fun h2 => ?_⟩
      · simp at h2
        refine ⟨_, _, rfl, rfl, _, rfl, ?_⟩
        have e : decide ((c.toNat : Int) ≤ 57) = digB (c :: b.drop (p + k + 1)) := by
          rw [digB, Bool.eq_iff_iff, digit_iff, decide_eq_true_eq]
          omega
        exact e ▸ q'
      · simp at h2
        have e : false = digB (c :: b.drop (p + k + 1)) := by
          rw [digB, eq_comm, Bool.eq_false_iff, ne_eq, digit_iff]
          omega
        exact ⟨_, rfl, e ▸ q'⟩
    · simp at h1
      rw [drop_nil (by omega)] at q'
      exact q'
  cases hd : digB (b.drop (p + k)) with
  | true =>
    obtain ⟨c, hc⟩ := lt_some (l := b) (i := p + k) (Nat.lt_of_not_le fun z => by rw [List.drop_eq_nil_of_le z] at hd; cases hd)
    rw [drop_at hc] at hd h he
    have hd : isDigit c = true := hd
    have hd2 := (digit_iff c).mp hd
    have hlt : p + k < b.length := (List.getElem?_eq_some_iff.mp hc).1
    refine ⟨fun σ' H2 => ∃ m', m' < b.length - (p + k) ∧ invNum a b p lo hi H' m' σ' H2, fun _ _ z => z, ?_⟩
    rw [rnGo, if_pos hd] at h he
    refine st_set (v := .bl (decide (k ≠ 0 ∧ v = 0))) (fun Q' q' => ?_) ?_
    · refine ⟨_, rfl, _, rfl, _, _, rfl, rfl, _, rfl, ite2 (fun h1 => ?_) fun h1 => ?_⟩
      · refine ⟨_, rfl, rfl, ?_⟩
        have e : decide (V.int (v : Int) = V.int 0) = decide (k ≠ 0 ∧ v = 0) := by
          simp at h1
          simp
          omega
        exact e ▸ q'
      · have e : false = decide (k ≠ 0 ∧ v = 0) := by
          simp at h1
          simp
          omega
        exact e ▸ q'
    have stuck : (k ≠ 0 ∧ v = 0) ∨ begins lo hi (10 * v + (c.toNat - 48)) = false → Stk K H' E (p + k) := fun z => by
      rw [if_pos z] at h
      exact h.err
    have ev : (v : Int) * 10 + (c.toNat : Int) - 48 = ((10 * v + (c.toNat - 48) : Nat) : Int) := by omega
    dsimp only
    refine st_set (v := .int ((10 * v + (c.toNat - 48) : Nat) : Int)) (fun Q' q' => ?_) ?_
    · refine ⟨_, rfl, _, _, rfl, rfl, .inl ⟨by omega, by omega⟩, _, rfl, _, rfl, _, _, _, _, rfl, rfl, hS, bv_at hc, _, _, rfl, rfl, _, _, rfl, rfl, ?_⟩
      show Q' (.int ((v : Int) * 10 + (c.toNat : Int) - 48)) H'
      rw [ev]
      exact q'
    refine ⟨_, rfl, _, rfl, ite2 (fun h1 => ?_) fun h1 => ?_⟩
    · exact ⟨_, rfl, _, rfl, fun d hd => (stuck (.inl (of_decide_eq_true h1))).at hd⟩
    refine ⟨_, rfl, _, rfl, _, rfl, _, _, _, rfl, hhi, _, rfl, ite2 (fun h2 => ?_) fun h2 => ?_⟩
    · exact ⟨_, rfl, _, rfl, fun d hd => (stuck (.inr (by simpa using h2))).at hd⟩
    · have hn : ¬ ((k ≠ 0 ∧ v = 0) ∨ begins lo hi (10 * v + (c.toNat - 48)) = false) := by
        simp only [decide_eq_true_eq] at h1
        simp only [Bool.not_eq_true', Bool.not_eq_false] at h2
        rintro (z | z)
        · exact h1 z
        · rw [h2] at z
          cases z
      rw [if_neg hn] at h he
      refine ⟨_, rfl, _, _, rfl, rfl, b.length - (p + (k + 1)), by omega, rfl, k + 1, _, _, rfl, rfl, begins_lt (by simpa using fun z => hn (.inr z)) hhi, he⟩
  | false =>
    have h2 : Res K (offR p (if k = 0 ∨ v < lo then .error k else .ok (v, k))) H' E fun x H' => ∀ t, H' t = some (.tup [.int (x.1 : Nat), .int (x.2 : Nat)]) → Q (.ref t) H' := by
      cases hl : b.drop (p + k) with
      | nil =>
        rw [hl] at h
        exact h
      | cons c r =>
        rw [hl] at h hd
        rw [rnGo, show isDigit c = false from hd, if_neg Bool.false_ne_true] at h
        exact h
    refine ⟨_, rfl, _, rfl, rfl, _, rfl, ite2 (fun h3 => ?_) fun h3 => ?_⟩
    · have h3 : k = 0 := by
        simp at h3
        omega
      rw [if_pos (.inl h3)] at h2
      exact ⟨_, rfl, _, rfl, fun d hd => h2.err.at hd⟩
    refine ⟨_, rfl, _, rfl, _, _, rfl, rfl, _, rfl, ite2 (fun h4 => ?_) fun h4 => ?_⟩
    · simp at h4
      rw [if_pos (.inr (by omega))] at h2
      exact ⟨_, rfl, _, rfl, fun d hd => h2.err.at hd⟩
    · simp at h3 h4
      rw [if_neg (by omega)] at h2
      exact ⟨_, rfl, _, rfl, by show 2 ≤ sizeLine; decide, fun t ht => h2.okS (.new ht) t upd_same⟩
end Tc
namespace Tc
open PySem PySem.Spec PyProof.Rows L2 Fh FhCheck
variable {K : PySem.W.Frag} {mg : Str → Option Value} {base : Heap} {P : Program} {w : World}
def rcGo (W : Nat → Nat → Bool) (least : Nat) : Nat → Nat → Nat → Bytes → R (Nat × Nat)
  | 0, low, k, _ => if W (max low least) (low + (64 ^ 0 - 1)) = false then .error k else .ok (low, k + 1)
  | n + 1, low, k, r => if W (max low least) (low + (64 ^ (n + 1) - 1)) = false then .error k else match r with
    | [] => .error (k + 1)
    | c :: r => if c.toNat / 64 = 2 then rcGo W least n (low + c.toNat % 64 * 64 ^ n) (k + 1) r else .error (k + 1)
section
variable {W : Nat → Nat → Bool} {least n low k : Nat} {r : Bytes} {c : UInt8}
theorem rcGo_no (h : W (max low least) (low + (64 ^ n - 1)) = false) : rcGo W least n low k r = .error k := by
  cases n with
  | zero => exact if_pos h
  | succ n => exact if_pos h
theorem no_of {b : Bool} (h : b = true) : ¬ b = false := fun z => by
  rw [h] at z
  cases z
theorem rcGo_0 (h : W (max low least) (low + (64 ^ 0 - 1)) = true) : rcGo W least 0 low k r = .ok (low, k + 1) := if_neg (no_of h)
theorem rcGo_nil (h : W (max low least) (low + (64 ^ (n + 1) - 1)) = true) : rcGo W least (n + 1) low k [] = .error (k + 1) := if_neg (no_of h)
theorem rcGo_bad (h : W (max low least) (low + (64 ^ (n + 1) - 1)) = true) (hc : ¬ c.toNat / 64 = 2) : rcGo W least (n + 1) low k (c :: r) = .error (k + 1) := (if_neg (no_of h)).trans (if_neg hc)
theorem rcGo_on (h : W (max low least) (low + (64 ^ (n + 1) - 1)) = true) (hc : c.toNat / 64 = 2) : rcGo W least (n + 1) low k (c :: r) = rcGo W least n (low + c.toNat % 64 * 64 ^ n) (k + 1) r := (if_neg (no_of h)).trans (if_pos hc)
end
/-- read_character, by what is wanted of the bounds -/
def rChar (W : Nat → Nat → Bool) (b : Bytes) (p : Nat) : R (Nat × Nat) := match b.drop p with
  | [] => .error p
  | c :: r => (rLead c.toNat p).bind fun x => offR p (rcGo W x.2.2 x.1 (x.2.1 * 64 ^ x.1) 0 r)
theorem lead_ok {c p : Nat} {x : Nat × Nat × Nat} (h : rLead c p = .ok x) : x.1 ≤ 3 ∧ x.2.1 < 128 ∧ x.2.1 * 64 ^ x.1 + 64 ^ x.1 ≤ 2 ^ 22 ∧ x.2.2 ≤ 65536 := by
  unfold rLead leadShape at h
  by_cases h1 : c < 128
  · rw [if_pos h1] at h
    cases h
    refine ⟨by dsimp only; omega, h1, ?_, by dsimp only; omega⟩
    show c * 64 ^ 0 + 64 ^ 0 ≤ _
    omega
  rw [if_neg h1] at h
  by_cases h2 : c < 192 ∨ 248 ≤ c
  · rw [if_pos h2] at h
    cases h
  rw [if_neg h2] at h
  by_cases h3 : c < 224
  · rw [if_pos h3] at h
    cases h
    refine ⟨by dsimp only; omega, by show c % 32 < 128; omega, ?_, by dsimp only; omega⟩
    show c % 32 * 64 ^ 1 + 64 ^ 1 ≤ _
    omega
  rw [if_neg h3] at h
  by_cases h4 : c < 240
  · rw [if_pos h4] at h
    cases h
    refine ⟨by dsimp only; omega, by show c % 16 < 128; omega, ?_, by dsimp only; omega⟩
    show c % 16 * 64 ^ 2 + 64 ^ 2 ≤ _
    omega
  rw [if_neg h4] at h
  cases h
  refine ⟨by dsimp only; omega, by show c % 8 < 128; omega, ?_, by dsimp only; omega⟩
  show c % 8 * 64 ^ 3 + 64 ^ 3 ≤ _
  omega
theorem pow6 (n : Nat) : 2 ^ (6 * n) = 64 ^ n := by rw [Nat.pow_mul]
theorem band_top (c : UInt8) : decide (V.int (Builtin.bitAnd (c.toNat : Int) 192) = V.int 128) = decide (c.toNat / 64 = 2) := by
  have h : ∀ n, n < 256 → decide ((n &&& 192) = 128) = decide (n / 64 = 2) := by decide +kernel
  rw [show (192 : Int) = ((192 : Nat) : Int) from rfl, PySem.W.os_band]
  rw [← h c.toNat (u8_lt c), decide_eq_decide]
  constructor
  · intro z
    injection z with z
    omega
  · intro z
    rw [z]
    rfl
/-- the test of a while; the arguments of a call -/
def whileTest : Stmt → Expr
  | .While c _ _ _ => c
  | _ => .Constant .none 0 ⟨0, 0, 0, 0⟩
def callArgs : Expr → List Expr
  | .Call _ es _ _ => es
  | _ => []
def wantE : Expr := whileTest ((defBody s_read_character).getD 4 (.Pass ⟨0, 0, 0, 0⟩))
abbrev zRc (P : Program) (w : World) (K : PySem.W.Frag) (mg : Str → Option Value) (base : Heap) (cdv : Value) (A : Around) (outer : List Env) (s : Shared) (H : Hp) (E : XK) : Cx :=
  cxOf (L2N.CX P w) P w K mg base ["data", "start", "wanted", "place", "bits", "own", "least", "low"] "read_character" (defScope s_read_character) (ga K "read_character") cdv A outer s H E
def invRc (W : Nat → Nat → Bool) (a : Addr) (b : Bytes) (p : Nat) (fv : V) (H : Hp) (res : R (Nat × Nat)) (m : Nat) (σ : L2.St) (H' : Hp) : Prop :=
  H' = H ∧ ∃ (n low k least : Nat) (o : V), m = n + 1 ∧ σ = [some (.ref a), some (.int p), some fv, some (.int ((p + k : Nat) : Int)), some (.int ((6 * n : Nat) : Int)), some o, some (.int (least : Nat)), some (.int (low : Nat))] ∧
    n ≤ 3 ∧ low + 64 ^ n ≤ 2 ^ 22 ∧ least ≤ 65536 ∧ res = offR p (rcGo W least n low k (b.drop (p + k + 1)))
theorem rc_body (T : Txt K mg) {cdv : Value} {A : Around} {outer : List Env} {s : Shared} {H : Hp} {E : XK} {a : Addr} {b : Bytes} {p : Nat} {fv : V} {Q : VK} (hr : Room 4 (A.deeper (envOfC "read_character" (defScope s_read_character) s.heap.objs.size (ga K "read_character") cdv)))
    (pre : Hp → Prop) (tw : List V → Hp → VK → Prop) (hcall : ∀ ta, PA (zRc P w K mg base cdv A outer s H E) (callArgs wantE) ta → PE (zRc P w K mg base cdv A outer s H E) wantE (fun σ H Q => σ[2]? = some (some fv) ∧ pre H ∧ ta σ H fun vs H1 => tw vs H1 Q))
    (hpre : ∀ H', Sm K H H' → pre H') (W : Nat → Nat → Bool) (hW : ∀ (lo hi : Nat) (H' : Hp) (Q' : VK), Sm K H H' → lo < 2 ^ 40 → Q' (.bl (W lo hi)) H' → tw [.int lo, .int hi] H' Q')
    (hS : SqL K H a (bv b)) (h : Res K (rChar W b p) H E fun x H' => ∀ t, H' t = some (.tup [.int (x.1 : Nat), .int (x.2 : Nat)]) → Q (.ref t) H') :
    ∃ t, PSs (zRc P w K mg base cdv A outer s H E) (defBody s_read_character) t ∧ t { nx := fun _ H' => Q .non H', rt := Q } (L2.start ["data", "start", "wanted", "place", "bits", "own", "least", "low"] [.ref a, .int p, fv]) H := by
  refine ⟨_, (pss_cons (ps_if (pt_cmpR op_ge (pv 1) (pe_callB call_len (by rfl) T.n_len (by decide +kernel) (pa_cons (pv 0) pa_nil)) (nomark _)) (pss_one (L2N.ps_raise rfl tkN (pmk_stuck T.xb T.stuck T.stuckI (by exact Nat.lt_of_le_of_lt (Nat.add_le_add_left (by decide : 10 ≤ 3 * 4 + 5) _) hr.dp) (by exact (pa_cons (pv 1) pa_nil))).pmk)) pss_nil) (pss_cons (ps_set (i := 3) sc_read_character.nd rfl (Or.inl rfl) (pv 1)) (pss_cons (ps_asg (pe_call (ok_lead_shape T) (hr.mono (by decide)) rfl T.d_lead_shape.g T.d_lead_shape.k T.d_lead_shape.b .nil (L2N.passes_call tkN fun _ _ _ _ z => z) (pa_cons (pe_ix ix_list (pv 0) (pv 3) (fun _ _ => rfl)) (pa_cons (pv 3) pa_nil))) (pg_tup rfl (pgs_cons (pg_name (i := 4) sc_read_character.nd rfl (Or.inl rfl)) (pgs_cons (pg_name (i := 5) sc_read_character.nd rfl (Or.inl rfl)) (pgs_cons (pg_name (i := 6) sc_read_character.nd rfl (Or.inl rfl)) pgs_nil))))) (pss_cons (ps_set (i := 7) sc_read_character.nd rfl (Or.inl rfl) (pe_op op_shl (pv 5) (pv 4))) (pss_cons (ps_while PassesOwn.leaving (pt_val (hcall _ (pa_cons (pe_callB (call_max2 rfl) (by rfl) T.n_max (by decide +kernel) (pa_cons (pv 7) (pa_cons (pv 6) pa_nil))) (pa_cons (pe_op op_sub (pe_op op_add (pv 7) (pe_op op_shl pe_int (pv 4))) pe_int) pa_nil)))) (pss_cons (ps_aug (i := 3) sc_read_character.nd rfl (Or.inl rfl) pe_int ip_add) (pss_cons (ps_if (pt_cmpR op_eq (pv 4) pe_int (nomark _)) (pss_one (ps_ret (pe_tup (pa_cons (pv 7) (pa_cons (pv 3) pa_nil))))) pss_nil) (pss_cons (ps_if (PW.pt (pw_or (pt_cmpR op_ge (pv 3) (pe_callB call_len (by rfl) T.n_len (by decide +kernel) (pa_cons (pv 0) pa_nil)) (nomark _)) (pw_or1 (pt_cmpR op_ne (pe_op op_and (pe_ix ix_list (pv 0) (pv 3) (fun _ _ => rfl)) pe_int) pe_int (nomark _))))) (pss_one (L2N.ps_raise rfl tkN (pmk_stuck T.xb T.stuck T.stuckI (by exact Nat.lt_of_le_of_lt (Nat.add_le_add_left (by decide : 10 ≤ 3 * 4 + 5) _) hr.dp) (by exact (pa_cons (pv 3) pa_nil))).pmk)) pss_nil) (pss_cons (ps_aug (i := 4) sc_read_character.nd rfl (Or.inl rfl) pe_int ip_sub) (pss_one (ps_aug (i := 7) sc_read_character.nd rfl (Or.inl rfl) (pe_op op_shl (pe_op op_and (pe_ix ix_list (pv 0) (pv 3) (fun _ _ => rfl)) pe_int) (pv 4)) ip_add))))))) (pss_one (L2N.ps_raise rfl tkN (pmk_stuck T.xb T.stuck T.stuckI (by exact Nat.lt_of_le_of_lt (Nat.add_le_add_left (by decide : 10 ≤ 3 * 4 + 5) _) hr.dp) (by exact (pa_cons (pv 3) pa_nil))).pmk))))))), ?_⟩
  refine ⟨_, rfl, _, rfl, _, _, rfl, len_b hS, _, _, rfl, rfl, _, rfl, ite2 (fun h1 => ?_) fun h1 => ?_⟩
  · simp at h1
    rw [rChar, drop_nil (by omega)] at h
    exact ⟨_, rfl, _, rfl, fun d hd => h.err.at hd⟩
  simp at h1
  obtain ⟨c, hc⟩ := lt_some (l := b) (i := p) (by omega)
  rw [rChar, drop_at hc] at h
  refine ⟨_, rfl, ?_⟩
  refine ⟨_, rfl, _, rfl, _, _, _, _, rfl, rfl, hS, bv_at hc, _, rfl, _, _, rfl, h.step fun x H1 hx hs h t ht => ?_⟩
  obtain ⟨hn, how, hlow, hle⟩ := lead_ok hx
  refine ⟨t, _, rfl, SqT.of ht, rfl, _, _, rfl, _, _, rfl, _, _, rfl, rfl, ?_⟩
  obtain ⟨n, own, least⟩ := x
  dsimp only at hn how hlow hle h
  have hS := hs.l hS
  dsimp only
  refine st_set (v := .int ((own * 64 ^ n : Nat) : Int)) (fun Q' q' => ?_) ?_
  · refine ⟨_, rfl, _, rfl, _, _, rfl, rfl, ⟨by omega, by omega, by omega⟩, ?_⟩
    show Q' (.int ((own : Int) * 2 ^ (((6 * n : Nat) : Int)).toNat)) H1
    rw [Int.toNat_natCast, show ((own : Int) * 2 ^ (6 * n)) = ((own * 2 ^ (6 * n) : Nat) : Int) by simp, pow6]
    exact q'
  refine ⟨invRc W a b p fv H1 (offR p (rcGo W least n (own * 64 ^ n) 0 (b.drop (p + 1)))), ⟨_, rfl, n, own * 64 ^ n, 0, least, _, rfl, rfl, hn, hlow, hle, rfl⟩, ?_⟩
  generalize hres : offR p (rcGo W least n (own * 64 ^ n) 0 (b.drop (p + 1))) = res at h ⊢
  clear hres hx how hlow hn ht hle
  rintro m σ H2 ⟨eH, n, low, k, least, o, rfl, rfl, hn, hlow, hle, rfl⟩
  subst eH
  have h64 : 64 ^ n ≤ 64 ^ 3 := Nat.pow_le_pow_right (by decide) hn
  have p64 : 0 < 64 ^ n := Nat.pow_pos (by decide)
  refine ans_use (b := W (max low least) (low + (64 ^ n - 1))) (fun Q' q' => ?_) ?_
  · refine ⟨rfl, hpre _ hs, _, rfl, _, rfl, _, _, rfl, _, rfl, _, rfl, _, _, rfl, rfl, ⟨by omega, by omega, by decide⟩, _, _, rfl, rfl, _, _, rfl, rfl, ?_⟩
    show tw [.int (if (least : Int) > (low : Int) then (least : Int) else (low : Int)), .int ((low : Int) + 1 * 2 ^ (((6 * n : Nat) : Int)).toNat - 1)] H2 _
    rw [Int.toNat_natCast, show ((1 : Int) * 2 ^ (6 * n)) = ((64 ^ n : Nat) : Int) by rw [← pow6]; simp, show (if (least : Int) > (low : Int) then (least : Int) else (low : Int)) = ((max low least : Nat) : Int) by split <;> omega,
      show (low : Int) + ((64 ^ n : Nat) : Int) - 1 = ((low + (64 ^ n - 1) : Nat) : Int) by omega]
    exact hW _ _ _ _ hs (by omega) ⟨_, rfl, q'⟩
  cases hw : W (max low least) (low + (64 ^ n - 1)) with
  | true =>
    refine ⟨fun σ' H3 => ∃ m', m' < n + 1 ∧ invRc W a b p fv H2 (offR p (rcGo W least n low k (b.drop (p + k + 1)))) m' σ' H3, fun _ _ z => z, ?_⟩
    refine ⟨_, rfl, _, _, rfl, rfl, ?_⟩
    refine ⟨_, rfl, rfl, _, rfl, ite2 (fun h3 => ?_) fun h3 => ?_⟩
    · have n0 : n = 0 := by
        simp at h3
        omega
      subst n0
      rw [rcGo_0 hw] at h
      exact ⟨_, rfl, _, rfl, by show 2 ≤ sizeLine; decide, fun t ht => h.okS (.new ht) t upd_same⟩
    simp at h3
    obtain ⟨n, rfl⟩ : ∃ n', n = n' + 1 := ⟨n - 1, by omega⟩; have epl : ((p + k : Nat) : Int) + 1 = ((p + k + 1 : Nat) : Int) := by omega
    have bad : (b.drop (p + k + 1) = [] ∨ ∃ c r, b.drop (p + k + 1) = c :: r ∧ ¬ c.toNat / 64 = 2) → Stk K H2 E (p + k + 1) := fun z => by
      rcases z with z | ⟨c, r, z, z2⟩
      · rw [z, rcGo_nil hw] at h
        exact h.err
      · rw [z, rcGo_bad hw z2] at h
        exact h.err
    have stk : (b.drop (p + k + 1) = [] ∨ ∃ c r, b.drop (p + k + 1) = c :: r ∧ ¬ c.toNat / 64 = 2) → ∀ d, H2 d = none → E (.ref (ga K "Stuck")) (some d) (upd H2 d (.xd [("place", .int (((p + k : Nat) : Int) + 1))])) := fun z d hd => by
      rw [epl]
      exact (bad z).at hd
    refine ⟨_, rfl, _, rfl, _, _, rfl, len_b hS, _, _, rfl, rfl, _, rfl, ite2 (fun h4 => ?_) fun h4 => ?_⟩
    · exact ⟨_, rfl, _, rfl, stk (.inl (drop_nil (by simp at h4; omega)))⟩
    simp at h4
    obtain ⟨c, hc⟩ := lt_some (l := b) (i := p + k + 1) (by omega)
    refine ⟨_, rfl, _, rfl, _, _, _, _, rfl, rfl, hS, epl ▸ bv_at hc, _, _, rfl, rfl, rfl, _, rfl, ite2 (fun h5 => ?_) fun h5 => ?_⟩
    · refine ⟨_, rfl, _, rfl, stk (.inr ⟨c, _, drop_at hc, fun z => ?_⟩)⟩
      have h5 : (!decide (V.int (Builtin.bitAnd (c.toNat : Int) 192) = V.int 128)) = true := h5
      rw [band_top] at h5
      simp [z] at h5
    · have h5 : ¬ (!decide (V.int (Builtin.bitAnd (c.toNat : Int) 192) = V.int 128)) = true := h5
      rw [band_top] at h5
      have h5 : c.toNat / 64 = 2 := by simpa using h5
      have hgo : rcGo W least (n + 1) low k (b.drop (p + k + 1)) = rcGo W least n (low + c.toNat % 64 * 64 ^ n) (k + 1) (b.drop (p + (k + 1) + 1)) := by
        rw [drop_at hc, rcGo_on hw h5]
        rfl
      have e64 : 64 ^ (n + 1) = 64 ^ n * 64 := Nat.pow_succ ..
      have hm : c.toNat % 64 * 64 ^ n ≤ 63 * 64 ^ n := Nat.mul_le_mul_right _ (by omega)
      refine ⟨_, rfl, _, _, rfl, rfl, _, rfl, _, rfl, _, rfl, _, _, _, _, rfl, rfl, hS, epl ▸ bv_at hc, _, _, rfl, rfl, _, rfl, _, _, rfl, rfl, ⟨by dsimp only; omega, by dsimp only; omega, ?_⟩, _, _, rfl, rfl, n + 1, by omega, rfl, n, low + c.toNat % 64 * 64 ^ n, k + 1, least, o, rfl, ?_, by omega, by omega, hle, by rw [hgo]⟩
      · show (Builtin.bitAnd (c.toNat : Int) 63).natAbs < 2 ^ 64
        rw [and63]
        omega
      · show [_, _, _, some (V.int (((p + k : Nat) : Int) + 1)), some (V.int (((6 * (n + 1) : Nat) : Int) - 6)), _, _, some (V.int ((low : Int) + Builtin.bitAnd (c.toNat : Int) 63 * 2 ^ (((6 * (n + 1) : Nat) : Int) - 6).toNat))] = _
        rw [and63, show ((6 * (n + 1) : Nat) : Int) - 6 = ((6 * n : Nat) : Int) by omega, Int.toNat_natCast, epl, show (low : Int) + ((c.toNat % 64 : Nat) : Int) * 2 ^ (6 * n) = ((low + c.toNat % 64 * 64 ^ n : Nat) : Int) by rw [← pow6]; simp]
        rfl
  | false =>
    have h' : Stk K H2 E (p + k) := by
      rw [rcGo_no hw] at h
      exact h.err
    exact ⟨_, rfl, _, rfl, fun d hd => h'.at hd⟩
end Tc
namespace Tc
open PySem PySem.Spec PyProof.Rows L2 Fh FhCheck LamX
variable {K : PySem.W.Frag} {mg : Str → Option Value} {base : Heap} {P : Program} {w : World}
/-- read_sign -/
def rSign (b : Bytes) (p least : Nat) (ks : List Nat) : R (Nat × Nat) := rChar (fun lo hi => someSign (max lo least) hi ks) b p
def spSign (K : PySem.W.Frag) : Sp := fun vs H Q E => ∃ (a : Addr) (b : Bytes) (p least : Nat) (d : Addr) (ks : List Nat), vs = [.ref a, .int p, .int least, .ref d] ∧ SqL K H a (bv b) ∧ DK H d ks ∧ least < 2 ^ 40 ∧ Tabs (Tb K) H ∧
  Res K (rSign b p least ks) H E fun x H' => ∀ t, H' t = some (.tup [.int (x.1 : Nat), .int (x.2 : Nat)]) → Q (.ref t) H'
def retOf : Stmt → Expr
  | .Return (some e) _ => e
  | _ => .Constant .none 0 ⟨0, 0, 0, 0⟩
def lamE : Expr := (callArgs (retOf ((defBody s_read_sign).getD 0 (.Pass ⟨0, 0, 0, 0⟩)))).getD 2 (.Constant .none 0 ⟨0, 0, 0, 0⟩)
def lamPar : Arguments := match lamE with
  | .Lambda p _ _ _ => p | _ => ⟨[], [], none, [], [], none, []⟩
def lamBody : Expr := match lamE with
  | .Lambda _ b _ _ => b
  | _ => .Constant .none 0 ⟨0, 0, 0, 0⟩
def lamSc : Scope := match lamE with
  | .Lambda _ _ s _ => s | _ => ⟨.function, [], false, false, []⟩
/-- the table's facts -/
abbrev TB (K : PySem.W.Frag) (mg : Str → Option Value) (base : Heap) : Prop := TabB base mg (cdA K (ga K "read_sign")) (tabA K (ga K "read_sign"))
abbrev zRs (P : Program) (w : World) (K : PySem.W.Frag) (mg : Str → Option Value) (base : Heap) (cdv : Value) (A : Around) (outer : List Env) (s : Shared) (H : Hp) (E : XK) : Cx :=
  cxOf (L2N.CX P w) P w K mg base ["data", "start", "least", "barred"] "read_sign" (defScope s_read_sign) (ga K "read_sign") cdv A outer s H E
/-- the lambda's reading -/
def tLb (K : PySem.W.Frag) : TE := tCall (spSome K) [] E0 (tCons (tCB (fun xs H Q => ∃ i j, xs = [.int i, .int j] ∧ Q (.int (if j > i then j else i)) H) (tCons (tVar 4) (tCons (tVar 2) tNil))) (tCons (tVar 5) (tCons (tVar 3) tNil)))
theorem lam_body (T : Txt K mg) {cdv : Value} {A A2 : Around} {outer outer2 : List Env} {s s2 : Shared} {H H2 : Hp} {E : XK} {f c' : Addr} (hr : Room 1 (A2.deeper (lamEnv (zRs P w K mg base cdv A outer s H E) lamSc s2.heap.objs.size f c'))) :
    PE (Tl.lamCx (zRs P w K mg base cdv A outer s H E) A2 outer2 s2 H2 ["low", "high"] lamSc f c') lamBody (tLb K) :=
  (pe_call (ok_some_sign T) hr rfl T.d_some_sign.g T.d_some_sign.k T.d_some_sign.b .nil pass0 (pa_cons (pe_callB (call_max2 rfl) (by rfl) T.n_max (by decide +kernel) (pa_cons (pv 4) (pa_cons (pv 2) pa_nil))) (pa_cons (pv 5) (pa_cons (pv 3) pa_nil))))
abbrev lamO (K : PySem.W.Frag) (X : Cx) (f c' : Addr) : HO := Tl.LamO f (X.env.qual ++ "<lambda>") lamPar lamBody lamSc (cloFrom X.env.cells lamSc.names []) c'
/-- what read_character is asked by read_sign -/
def spGo (P : Program) (w : World) (K : PySem.W.Frag) (X : Cx) (E : XK) : L2.St → List V → Hp → VK → Prop := fun σ vs H Q => ∃ (a : Addr) (b : Bytes) (p least : Nat) (d : Addr) (ks : List Nat) (f c' : Addr), vs = [.ref a, .int p, .ref f] ∧ σ = [some (.ref a), some (.int p), some (.int least), some (.ref d)] ∧
  SqL K H a (bv b) ∧ DK H d ks ∧ least < 2 ^ 40 ∧ H f = some (lamO K X f c') ∧ H c' = some (CodeO c' (X.env.qual ++ "<lambda>")) ∧
  Res K (rSign b p least ks) H E fun x H' => ∀ t, H' t = some (.tup [.int (x.1 : Nat), .int (x.2 : Nat)]) → Q (.ref t) H'
theorem q_lam : (Str.ofString "read_sign" ++ Str.ofString ".<locals>.") ++ Str.ofString "<lambda>" = qLam := by decide +kernel
theorem lam_p : Tl.LamP ["data", "start", "least", "barred"] ["low", "high"] (defScope s_read_sign) lamSc := Tl.lamP_by (by decide +kernel)
theorem rs_go (T : Txt K mg) {cdv cdv2 : Value} {A : Around} {outer : List Env} {s s1 : Shared} {H H1 : Hp} {E : XK} {pins : List (Addr × Obj)} {σ : L2.St} {vs : List V} {Q : VK}
    (I : Inv (zRs P w K mg base cdv A outer s H E) pins σ H1 s1) (h : spGo P w K (zRs P w K mg base cdv A outer s H E) E σ vs H1 Q) (hr : Room 4 ((zRs P w K mg base cdv A outer s H E).A.deeper (envOfC "read_character" (defScope s_read_character) s1.heap.objs.size (ga K "read_character") cdv2))) :
    ∃ t, PSs (zRc P w K mg base cdv2 (zRs P w K mg base cdv A outer s H E).A (zRs P w K mg base cdv A outer s H E).stack s1 H1 E) (defBody s_read_character) t ∧ t { nx := fun _ H' => Q .non H', rt := Q } (L2.start ["data", "start", "wanted", "place", "bits", "own", "least", "low"] vs) H1 := by
  obtain ⟨a, b, p, least, d, ks, f, c', rfl, rfl, hS, hD, hl, hf, hc, h⟩ := h
  refine rc_body T (fv := .ref f) hr (fun H' => H' f = some (lamO K (zRs P w K mg base cdv A outer s H E) f c')) (fun vs H2 Q => vs.length = 2 ∧ H2 f = some (lamO K (zRs P w K mg base cdv A outer s H E) f c') ∧ H2 c' = some (CodeO c' ((zRs P w K mg base cdv A outer s H E).env.qual ++ "<lambda>")) ∧
    tLb K ([some (.ref a), some (.int p), some (.int least), some (.ref d)] ++ vs.map some) H2 Q) (fun ta ha => ?_) (fun H' hs => hs.at hf) (fun lo hi => someSign (max lo least) hi ks) (fun lo hi H' Q' hs hlo q => ⟨rfl, hs.at hf, hs.at hc, ?_⟩) hS h
  · exact Tl.pe_act (k := 1) (ps := ["low", "high"]) I rfl lam_p hf (fun q cl pm cv ctv us hl => match us, hl with | [_, _], _ => rfl) (hr.mono (by decide)) (fun A2 outer2 s2 H2 hr2 => lam_body T hr2) rfl (.inl rfl) ha
  · refine ⟨_, rfl, _, rfl, _, _, rfl, _, rfl, _, rfl, max lo least, hi, d, ks, ?_, by omega, hs.at hD, q⟩
    show [V.int (if (least : Int) > (lo : Int) then (least : Int) else (lo : Int)), _, _] = _
    rw [show (if (least : Int) > (lo : Int) then (least : Int) else (lo : Int)) = ((max lo least : Nat) : Int) by split <;> omega]
theorem ok_read_sign (T : Txt K mg) (tb : TB K mg base) : FnOk P w K mg base (L2N.CX P w) 6 (ga K "read_sign") (fd K "read_sign") ["data", "start", "least", "barred"] (spSign K) := by
  refine okN T.d_read_sign.fn sc_read_sign (fun vs H Q E h => by obtain ⟨_, _, _, _, _, _, rfl, _⟩ := h; rfl) fun cdv A outer s H vs Q E hcd hr h => ?_
  refine ⟨_, pss_one (ps_ret (Tl.pe_callI (k := 4) (E := E) (sp := spGo P w K (zRs P w K mg base cdv A outer s H E) E) T.d_read_character.fn sc_read_character T.d_read_character.b (hr.mono (by decide)) rfl T.d_read_character.g (L2N.passes_call tkN fun _ _ _ _ z => z)
    (fun σ vs H Q h => by obtain ⟨_, _, _, _, _, _, _, _, rfl, _⟩ := h; rfl) (fun cdv2 pins σ s1 H1 vs1 Q1 I hsp hr1 => rs_go T I hsp hr1)
    (pa_cons (pv 0) (pa_cons (pv 1) (pa_cons (Tl.pe_lam (T := Tb K) (ps := ["low", "high"]) tb (hcd.trans T.cd) (List.mem_singleton.mpr (congrArg (Prod.mk _) q_lam)) (fun p hp _ => by rw [List.mem_singleton.mp hp]; exact q_lam.symm) lam_p rfl) pa_nil))))), ?_⟩
  obtain ⟨a, b, p, least, d, ks, rfl, hS, hD, hl, hT, h⟩ := h
  refine ⟨_, rfl, _, rfl, hT, fun f c' H1 e1 t1 f1 hf h1 h2 => ?_⟩
  have hs : Sm K H H1 := ⟨e1, fun _ => t1, f1⟩
  exact ⟨a, b, p, least, d, ks, f, c', rfl, rfl, hs.l hS, hs.at hD, hl, h1, h2, h.same hs⟩
end Tc
namespace Tc
open PySem PySem.Spec PyProof.Rows L2 Fh FhCheck LamX
variable {K : PySem.W.Frag} {mg : Str → Option Value} {base : Heap} {P : Program} {w : World}
/-! ### the list of checks, as the program keeps it -/
structure CL where
  lines : Nat
  asked : List Nat
  marks : Option ((Nat × Nat) × (Nat × Nat))
  nob : List Nat
  aft : List Nat
  ends : List (Nat × Nat)
  pairs : List (Nat × Nat)
  bra : List Nat
  most : Nat
  longer : Nat
  ranges : List (Nat × Nat)
def CL.sz (k : CL) : Nat := k.asked.length + k.nob.length + k.aft.length + k.ends.length + k.pairs.length + k.bra.length + k.ranges.length
def addN (l : List Nat) (c : Nat) : List Nat := if l.contains c = true then l else l ++ [c]
def putP (l : List (Nat × Nat)) (c d : Nat) : List (Nat × Nat) := if (l.any fun x => x.1 == c) = true then l.map (fun x => if x.1 = c then (x.1, d) else x) else l ++ [(c, d)]
def afterAll (l : List Nat) : Nat := l.foldr (fun c m => max (c + 1) m) 0
theorem after_max : ∀ {l : List Nat} {m : Nat}, m ∈ l → (∀ y ∈ l, y ≤ m) → afterAll l = m + 1
  | [], m, h, _ => by simp at h
  | c :: l, m, h, hm => by
    show max (c + 1) (afterAll l) = m + 1
    have hc := hm c List.mem_cons_self
    by_cases z : m ∈ l
    · rw [after_max z fun y hy => hm y (List.mem_cons_of_mem _ hy)]
      omega
    · have e : m = c := by
        rcases List.mem_cons.mp h with h | h
        · exact h
        · exact absurd h z
      subst e
      have : afterAll l ≤ m + 1 := by
        clear h hc z
        induction l with
        | nil => simp [afterAll]
        | cons d l ih =>
          have h1 := hm d (by simp)
          have h2 := ih fun y hy => hm y (by simp at hy ⊢; rcases hy with hy | hy; exact .inl hy; exact .inr (.inr hy))
          show max (d + 1) (afterAll l) ≤ m + 1
          omega
      omega
theorem after_le {l : List Nat} {n : Nat} (h : ∀ y ∈ l, y < n) : afterAll l ≤ n := by
  induction l with
  | nil => simp [afterAll]
  | cons d l ih =>
    have h1 := h d List.mem_cons_self
    have h2 := ih fun y hy => h y (List.mem_cons_of_mem _ hy)
    show max (d + 1) (afterAll l) ≤ n
    omega
/-- the keys of a dict of numbers -/
def kn (ks : List Nat) : List Key := ks.map fun (c : Nat) => (Sum.inl (c : Int) : Key)
def spAfter (K : PySem.W.Frag) : Sp := fun vs H Q E => ∃ (d : Addr) (kvs : List (Key × V)) (ks : List Nat), vs = [.ref d] ∧ H d = some (.dK kvs) ∧ kvs.map Prod.fst = kn ks ∧ ∀ H', Sm K H H' → Q (.int (afterAll ks : Nat)) H'
theorem ok_after_all (T : Txt K mg) : FnOk P w K mg base CX0 1 (ga K "after_all") (fd K "after_all") ["kept"] (spAfter K) := by
  refine T.d_after_all.fn.ok sc_after_all (fun vs H Q E h => by obtain ⟨_, _, _, rfl, _⟩ := h; rfl) fun cdv A outer s H vs Q E hr h => ?_
  refine ⟨_, (pss_one (ps_ret (pe_op op_add (pe_callBK (Tl.cr_maxD rfl (hu_of hr)) (by rfl) T.n_max (by decide +kernel) (pa_cons (pe_callTy (call_listD rfl) (by rfl) T.n_list (by decide +kernel) (pa_cons (pv 0) pa_nil)) pa_nil) (pk_cons (pe_un un_neg pe_int) pk_nil)) pe_int))), ?_⟩
  obtain ⟨d, kvs, ks, rfl, hD, hk, q⟩ := h
  refine ⟨_, rfl, _, _, rfl, .inl hD, fun l hl => ⟨_, rfl, ?_⟩⟩
  have e : kvs.map (fun kv => kV kv.1) = (ks.map fun (c : Nat) => (c : Int)).map V.int := by
    have : kvs.map (fun kv => kV kv.1) = (kvs.map Prod.fst).map kV := by rw [List.map_map]; rfl
    rw [this, hk, kn, List.map_map, List.map_map]
    rfl
  refine ⟨l, ks.map fun (c : Nat) => (c : Int), _, rfl, rfl, SqL.of (upd_same.trans (by rw [e])), fun h0 => ⟨_, _, rfl, rfl, ?_⟩, fun m hm hle => ⟨_, _, rfl, rfl, ?_⟩⟩
  · have e0 : ks = [] := List.map_eq_nil_iff.mp h0
    subst e0
    exact q _ (.new hl)
  · obtain ⟨c, hc, rfl⟩ := List.mem_map.mp hm
    have := after_max hc fun y hy => by
      have := hle (y : Int) (List.mem_map.mpr ⟨y, hy, rfl⟩)
      omega
    have q2 := q _ (.new (o := .lst (kvs.map fun kv => kV kv.1)) hl)
    rw [this] at q2
    exact q2
end Tc
namespace Tc
open PySem PySem.Spec PyProof.Rows L2 Fh FhCheck LamX
variable {K : PySem.W.Frag} {mg : Str → Option Value} {base : Heap} {P : Program} {w : World}
/-! ### heaps in which what is owned may change -/
structure Fr (K : PySem.W.Frag) (own : List Addr) (H H' : Hp) : Prop where
  e : ∀ b o, H b = some o → b ∉ own → (∀ ps, o ≠ .tbl ps) → H' b = some o
  t : Tabs (Tb K) H → Tabs (Tb K) H'
  f : ∀ b, H' b = none → H b = none
/-- objects that may be written without harm to tables -/
def Soft : HO → Prop
  | .tbl _ => False
  | .ext _ => False
  | _ => True
section
variable {own : List Addr} {H H' H1 H2 : Hp} {a : Addr} {o o1 : HO}
theorem Sm.fr (s : Sm K H H') : Fr K own H H' := ⟨fun b o z _ n => s.e b o z n, s.t, s.f⟩
theorem Fr.refl : Fr K own H H := Sm.refl.fr
theorem Fr.trans (x : Fr K own H H1) (y : Fr K own H1 H2) : Fr K own H H2 := ⟨fun b o z n m => y.e b o (x.e b o z n m) n m, fun z => y.t (x.t z), fun b z => x.f b (y.f b z)⟩
theorem tabs_mut (h : Tabs (Tb K) H) (ha : H a = some o1) (hs : Soft o1) : Tabs (Tb K) (upd H a o) := fun p hp => by
  obtain ⟨ps, h1, h2, h3⟩ := h p hp
  have n1 : p.1 ≠ a := ne_of h1 ha (fun z => by subst z; exact hs)
  refine ⟨ps, by rw [upd_ne n1]; exact h1, h2, fun pos cv hc => ?_⟩
  obtain ⟨c, e1, e2⟩ := h3 pos cv hc; have n2 : c ≠ a := ne_of e2 ha (fun z => by subst z; exact hs)
  exact ⟨c, e1, by rw [upd_ne n2]; exact e2⟩
theorem free_mut (b : Addr) (z : upd H a o b = none) : H b = none := by
  unfold upd at z
  split at z
  · cases z
  · exact z
/-- an owned object is written -/
theorem Fr.mut (ha : H a = some o1) (hs : Soft o1) (hm : a ∈ own) : Fr K own H (upd H a o) :=
  ⟨fun b u z n _ => by rw [upd_ne (fun y => n (by rw [y]; exact hm))]; exact z, fun t => tabs_mut t ha hs, free_mut⟩
theorem Fr.new (h : H a = none) : Fr K own H (upd H a o) := (Sm.new h).fr
/-- an object that H0 did not know is written -/
theorem Sm.mut {H0 : Hp} (s : Sm K H0 H) (n : H0 a = none) (ha : H a = some o1) (hs : Soft o1) : Sm K H0 (upd H a o) :=
  ⟨fun b u z m => by rw [upd_ne (ne_of_none z n)]; exact s.e b u z m, fun t => tabs_mut (s.t t) ha hs, fun b z => s.f b (free_mut b z)⟩
/-- what is owned is new to H0 -/
theorem Fr.sm {H0 : Hp} (x : Fr K own H H') (s : Sm K H0 H) (n : ∀ a ∈ own, H0 a = none) : Sm K H0 H' :=
  ⟨fun b u z m => x.e b u (s.e b u z m) (fun y => by rw [n b y] at z; cases z) m, fun t => x.t (s.t t), fun b z => s.f b (x.f b z)⟩
end
/-! ### the list of checks in the heap -/
/-- a list of pairs of numbers -/
def PL (H : Hp) (e : Addr) (l : List (Nat × Nat)) : Prop := ∃ ts : List Addr, H e = some (.lst (ts.map V.ref)) ∧ ts.length = l.length ∧ ∀ (i : Nat) (x : Nat × Nat), l[i]? = some x → ∃ t, ts[i]? = some t ∧ H t = some (.tup [.int (x.1 : Nat), .int (x.2 : Nat)])
/-- a tuple of two numbers at an address -/
def T2 (H : Hp) (t : Addr) (x : Nat × Nat) : Prop := H t = some (.tup [.int (x.1 : Nat), .int (x.2 : Nat)])
def MarkV (H : Hp) (v : V) : Option ((Nat × Nat) × (Nat × Nat)) → Prop
  | none => v = .non
  | some (x, y) => ∃ m t1 t2, v = .ref m ∧ H m = some (.tup [.ref t1, .ref t2]) ∧ T2 H t1 x ∧ T2 H t2 y
/-- words of a list's lines -/
def wdL : List Bytes := [[101, 109, 112, 116, 121], [115, 97, 109, 101], [116, 97, 103, 115], [110, 117, 109, 98, 101, 114, 115], [98, 108, 97, 110, 107, 115], [110, 111, 98, 101, 102, 111, 114, 101], [98, 101, 102, 111, 114, 101], [101, 110, 100], [112, 97, 105, 114], [116, 119, 105, 99, 101], [109, 111, 115, 116], [108, 111, 110, 103, 101, 114], [110, 111, 116]]
def wd (i : Nat) : Bytes := wdL.getD i []
def wdS (i : Nat) : V := .str (tx (wd i))
/-- the dict of what is asked -/
def askD (l : List Nat) : List (Key × V) := l.map fun i => (Sum.inr (tx (wd i)), V.bl true)
def parD (l : List (Nat × Nat)) : List (Key × V) := l.map fun x => (Sum.inl (x.1 : Int), V.int (x.2 : Nat))
structure Pt where
  asked : Addr
  nob : Addr
  aft : Addr
  ends : Addr
  par : Addr
  bra : Addr
  rng : Addr
def Pt.own (p : Pt) (a : Addr) : List Addr := [a, p.asked, p.nob, p.aft, p.ends, p.par, p.bra, p.rng]
def clF (p : Pt) (k : CL) (mv : V) : List (Str × V) := [("lines", .int (k.lines : Nat)), ("asked", .ref p.asked), ("marks", mv), ("not_after_blank", .ref p.nob), ("after_blank", .ref p.aft), ("endings", .ref p.ends), ("partners", .ref p.par), ("brackets", .ref p.bra), ("most", .int (k.most : Nat)), ("longer", .int (k.longer : Nat)), ("ranges", .ref p.rng)]
structure CLs (K : PySem.W.Frag) (H : Hp) (a : Addr) (p : Pt) (k : CL) : Prop where
  self : ∃ dx mv, H a = some (.ins (ga K "CheckList") dx (clF p k mv)) ∧ MarkV H mv k.marks
  asked : H p.asked = some (.dK (askD k.asked))
  nob : DK H p.nob k.nob
  aft : DK H p.aft k.aft
  ends : PL H p.ends k.ends
  par : H p.par = some (.dK (parD k.pairs))
  bra : DK H p.bra k.bra
  rng : PL H p.rng k.ranges
  nd : (p.own a).Nodup
section
variable {H H' : Hp} {a e : Addr} {p : Pt} {k : CL} {l : List (Nat × Nat)} {own : List Addr} {v : V} {o : HO}
theorem PL.keep (h : PL H e l) (k1 : ∀ o, H e = some (.lst o) → H' e = some (.lst o)) (k2 : ∀ t xs, H t = some (.tup xs) → H' t = some (.tup xs)) : PL H' e l := by
  obtain ⟨ts, h1, h2, h3⟩ := h
  refine ⟨ts, k1 _ h1, h2, fun i x hx => ?_⟩
  obtain ⟨t, q1, q2⟩ := h3 i x hx
  exact ⟨t, q1, k2 t _ q2⟩
theorem MarkV.keep {m : Option ((Nat × Nat) × (Nat × Nat))} (h : MarkV H v m) (k2 : ∀ t xs, H t = some (.tup xs) → H' t = some (.tup xs)) : MarkV H' v m := by
  cases m with
  | none => exact h
  | some m =>
    obtain ⟨a, t1, t2, h1, h2, h3, h4⟩ := h
    exact ⟨a, t1, t2, h1, k2 _ _ h2, k2 _ _ h3, k2 _ _ h4⟩
theorem CLs.keep (h : CLs K H a p k) (q : ∀ b o, H b = some o → (∀ ps, o ≠ .tbl ps) → H' b = some o) : CLs K H' a p k := by
  obtain ⟨⟨dx, mv, s1, s2⟩, h1, h2, h3, h4, h5, h6, h7, h8⟩ := h
  have k2 : ∀ t xs, H t = some (.tup xs) → H' t = some (.tup xs) := fun t xs z => q t _ z (fun _ y => by cases y)
  exact ⟨⟨dx, mv, q _ _ s1 (fun _ y => by cases y), s2.keep k2⟩, q _ _ h1 (fun _ y => by cases y), q _ _ h2 (fun _ y => by cases y), q _ _ h3 (fun _ y => by cases y), h4.keep (fun _ z => q _ _ z (fun _ y => by cases y)) k2, q _ _ h5 (fun _ y => by cases y), q _ _ h6 (fun _ y => by cases y),
    h7.keep (fun _ z => q _ _ z (fun _ y => by cases y)) k2, h8⟩
theorem CLs.sm (h : CLs K H a p k) (s : Sm K H H') : CLs K H' a p k := h.keep s.e
end
theorem ne_at {l : List Addr} (h : l.Nodup) {i j : Nat} {x y : Addr} (hx : l[i]? = some x) (hy : l[j]? = some y) (hij : i ≠ j) : x ≠ y := by
  intro z
  rw [← z] at hy
  exact hij ((List.getElem?_inj (List.getElem?_eq_some_iff.mp hx).1 h).mp (hx.trans hy.symm))
theorem wq3 : ∀ i, i < 13 → decide (wdS i = V.str "numbers") = decide (i = 3) := by decide +kernel
theorem wq5 : ∀ i, i < 13 → decide (wdS i = V.str "nobefore") = decide (i = 5) := by decide +kernel
theorem wq6 : ∀ i, i < 13 → decide (wdS i = V.str "before") = decide (i = 6) := by decide +kernel
theorem wq7 : ∀ i, i < 13 → decide (wdS i = V.str "end") = decide (i = 7) := by decide +kernel
theorem wq8 : ∀ i, i < 13 → decide (wdS i = V.str "pair") = decide (i = 8) := by decide +kernel
theorem wq10 : ∀ i, i < 13 → decide (wdS i = V.str "most") = decide (i = 10) := by decide +kernel
theorem wq11 : ∀ i, i < 13 → decide (wdS i = V.str "longer") = decide (i = 11) := by decide +kernel
theorem wq12 : ∀ i, i < 13 → decide (wdS i = V.str "not") = decide (i = 12) := by decide +kernel
section
variable {p : Pt} {k : CL} {v : V}
theorem clF_asked : List.lookup (Str.ofString "asked") (clF p k v) = some (V.ref p.asked) := rfl
theorem clF_nob : List.lookup (Str.ofString "not_after_blank") (clF p k v) = some (V.ref p.nob) := rfl
theorem clF_aft : List.lookup (Str.ofString "after_blank") (clF p k v) = some (V.ref p.aft) := rfl
theorem clF_ends : List.lookup (Str.ofString "endings") (clF p k v) = some (V.ref p.ends) := rfl
theorem clF_par : List.lookup (Str.ofString "partners") (clF p k v) = some (V.ref p.par) := rfl
theorem clF_bra : List.lookup (Str.ofString "brackets") (clF p k v) = some (V.ref p.bra) := rfl
theorem clF_rng : List.lookup (Str.ofString "ranges") (clF p k v) = some (V.ref p.rng) := rfl
theorem clF_lines : List.lookup (Str.ofString "lines") (clF p k v) = some (V.int (k.lines : Nat)) := rfl
theorem clF_marks : List.lookup (Str.ofString "marks") (clF p k v) = some v := rfl
theorem clF_most : List.lookup (Str.ofString "most") (clF p k v) = some (V.int (k.most : Nat)) := rfl
theorem clF_longer : List.lookup (Str.ofString "longer") (clF p k v) = some (V.int (k.longer : Nat)) := rfl
end
theorem tr_keys {ks : List Nat} : (tr ks).map Prod.fst = kn ks := by simp [tr, kn]
theorem par_keys {l : List (Nat × Nat)} : (parD l).map Prod.fst = kn (l.map Prod.fst) := by simp [parD, kn]
theorem PL.last {H : Hp} {e : Addr} {l : List (Nat × Nat)} {ts : List Addr} (h : PL H e l) (he : H e = some (.lst (ts.map V.ref))) (hl : l ≠ []) : ∃ x t, l.getLast? = some x ∧ T2 H t x ∧ atI (ts.map V.ref) (-1) = some (.ref t) := by
  obtain ⟨ts', h1, h2, h3⟩ := h
  rw [he] at h1
  have e1 : ts.map V.ref = ts'.map V.ref := by injection h1 with h1; injection h1
  rw [e1]
  have hp : 0 < l.length := List.length_pos_iff.mpr hl
  obtain ⟨x, hx⟩ := lt_some (l := l) (i := l.length - 1) (by omega)
  obtain ⟨t, q1, q2⟩ := h3 _ x hx
  refine ⟨x, t, by rw [List.getLast?_eq_getElem?]; exact hx, q2, ?_⟩
  have hd : ts'.map V.ref = (ts'.dropLast).map V.ref ++ [V.ref t] := by
    have hg : ts'.getLast? = some t := by rw [List.getLast?_eq_getElem?, h2]; exact q1
    rw [← List.map_singleton (f := V.ref), ← List.map_append]
    congr 1
    have hn : ts' ≠ [] := by
      intro z
      rw [z] at hg
      cases hg
    rw [List.getLast?_eq_some_getLast hn] at hg
    injection hg with hg
    rw [← hg]
    exact (List.dropLast_concat_getLast hn).symm
  rw [hd]
  exact atI_last _ _
/-- two numbers as data -/
def d2 (x : Nat × Nat) : PyData := .tuple [.int (x.1 : Nat), .int (x.2 : Nat)]
theorem dp2 {H : Hp} {a b : Nat} : DpAll K H [.int (a : Nat), .int (b : Nat)] [.int (a : Nat), .int (b : Nat)] := .cons (.int _) (.cons (.int _) .nil)
theorem sh2 (a b : Int) : SeqAt.shaped (.tuple [.int a, .int b]) = true := rfl
theorem eqv2 {a b c d : Nat} : PyData.eqv (.tuple [.int a, .int b]) (.tuple [.int c, .int d]) = decide ((a, b) = (c, d)) := by
  have h1 : ∀ x y : Nat, ((x : Int) == (y : Int)) = decide (x = y) := fun x y => by
    rw [Bool.eq_iff_iff, beq_iff_eq, decide_eq_true_eq]; omega
  simp [PyData.eqv, PyData.eqvAll, h1]
/-! ### may_repeat -/
def mayRep (k : CL) (w : Nat) : Bool :=
  if w = 5 then decide (k.nob.length < 64) && someSign (afterAll k.nob) 12351 []
  else if w = 6 then decide (k.aft.length < 64) && someSign (afterAll k.aft) 12351 k.nob
  else if w = 7 then decide (k.ends.length < 64) && decide (k.ends.getLast? ≠ some (12351, 12351))
  else if w = 8 then decide (k.pairs.length < 64) && someSign (afterAll (k.pairs.map Prod.fst)) 12351 k.bra
  else if w = 12 then decide (k.ranges.length < 64) && decide (∀ x ∈ k.ranges.getLast?, x.2 < 1114111)
  else false
def spMay (K : PySem.W.Frag) : Sp := fun vs H Q E => ∃ (a : Addr) (p : Pt) (k : CL) (i : Nat), vs = [.ref a, wdS i] ∧ i < 13 ∧ CLs K H a p k ∧ (i = 7 → k.ends ≠ []) ∧ (i = 12 → k.ranges ≠ []) ∧ (∀ c ∈ k.nob, c < 2 ^ 30) ∧ (∀ c ∈ k.aft, c < 2 ^ 30) ∧ (∀ c ∈ k.pairs, c.1 < 2 ^ 30) ∧ ∀ H', Sm K H H' → Q (.bl (mayRep k i)) H'
theorem ok_may_repeat (T : Txt K mg) : FnOk P w K mg base CX0 2 (ga K "may_repeat") (fd K "may_repeat") ["checklist", "word"] (spMay K) := by
  refine T.d_may_repeat.fn.ok sc_may_repeat (fun vs H Q E h => by obtain ⟨_, _, _, _, rfl, _⟩ := h; rfl) fun cdv A outer s H vs Q E hr h => ?_
  refine ⟨_, (pss_cons (ps_if (pt_cmpR op_eq (pv 1) pe_str (nomark _)) (pss_cons (ps_set (i := 2) sc_may_repeat.nd rfl (Or.inl rfl) (pe_fld (pv 0) rfl)) (pss_one (ps_ret (pe_and (pe_cmpR op_lt (pe_callB call_lenD (by rfl) T.n_len (by decide +kernel) (pa_cons (pv 2) pa_nil)) (pe_gi rfl T.i_MOST_LINES_OF_A_SORT) (nomark _)) (pe_one (pe_call (ok_some_sign T) (hr.mono (by decide)) rfl T.d_some_sign.g T.d_some_sign.k T.d_some_sign.b .nil pass0 (pa_cons (pe_call (ok_after_all T) (hr.mono (by decide)) rfl T.d_after_all.g T.d_after_all.k T.d_after_all.b .nil pass0 (pa_cons (pv 2) pa_nil)) (pa_cons (pe_gi rfl T.i_LAST_SIGN) (pa_cons pe_dnewK pa_nil))))))))) pss_nil) (pss_cons (ps_if (pt_cmpR op_eq (pv 1) pe_str (nomark _)) (pss_cons (ps_set (i := 2) sc_may_repeat.nd rfl (Or.inl rfl) (pe_fld (pv 0) rfl)) (pss_one (ps_ret (pe_and (pe_cmpR op_lt (pe_callB call_lenD (by rfl) T.n_len (by decide +kernel) (pa_cons (pv 2) pa_nil)) (pe_gi rfl T.i_MOST_LINES_OF_A_SORT) (nomark _)) (pe_one (pe_call (ok_some_sign T) (hr.mono (by decide)) rfl T.d_some_sign.g T.d_some_sign.k T.d_some_sign.b .nil pass0 (pa_cons (pe_call (ok_after_all T) (hr.mono (by decide)) rfl T.d_after_all.g T.d_after_all.k T.d_after_all.b .nil pass0 (pa_cons (pv 2) pa_nil)) (pa_cons (pe_gi rfl T.i_LAST_SIGN) (pa_cons (pe_fld (pv 0) rfl) pa_nil))))))))) pss_nil) (pss_cons (ps_if (pt_cmpR op_eq (pv 1) pe_str (nomark _)) (pss_cons (ps_set (i := 2) sc_may_repeat.nd rfl (Or.inl rfl) (pe_fld (pv 0) rfl)) (pss_one (ps_ret (pe_and (pe_cmpR op_lt (pe_callB call_len (by rfl) T.n_len (by decide +kernel) (pa_cons (pv 2) pa_nil)) (pe_gi rfl T.i_MOST_LINES_OF_A_SORT) (nomark _)) (pe_one (pe_cmpR (op_neD hr.units) (pe_ix ix_list (pv 2) (pe_un un_neg pe_int) (fun _ _ => rfl)) (pe_tup (pa_cons (pe_gi rfl T.i_LAST_SIGN) (pa_cons (pe_gi rfl T.i_LAST_SIGN) pa_nil))) (nomark _))))))) pss_nil) (pss_cons (ps_if (pt_cmpR op_eq (pv 1) pe_str (nomark _)) (pss_cons (ps_set (i := 2) sc_may_repeat.nd rfl (Or.inl rfl) (pe_fld (pv 0) rfl)) (pss_one (ps_ret (pe_and (pe_cmpR op_lt (pe_callB call_lenD (by rfl) T.n_len (by decide +kernel) (pa_cons (pv 2) pa_nil)) (pe_gi rfl T.i_MOST_LINES_OF_A_SORT) (nomark _)) (pe_one (pe_call (ok_some_sign T) (hr.mono (by decide)) rfl T.d_some_sign.g T.d_some_sign.k T.d_some_sign.b .nil pass0 (pa_cons (pe_call (ok_after_all T) (hr.mono (by decide)) rfl T.d_after_all.g T.d_after_all.k T.d_after_all.b .nil pass0 (pa_cons (pv 2) pa_nil)) (pa_cons (pe_gi rfl T.i_LAST_SIGN) (pa_cons (pe_fld (pv 0) rfl) pa_nil))))))))) pss_nil) (pss_cons (ps_if (pt_cmpR op_eq (pv 1) pe_str (nomark _)) (pss_cons (ps_set (i := 2) sc_may_repeat.nd rfl (Or.inl rfl) (pe_fld (pv 0) rfl)) (pss_one (ps_ret (pe_and (pe_cmpR op_lt (pe_callB call_len (by rfl) T.n_len (by decide +kernel) (pa_cons (pv 2) pa_nil)) (pe_gi rfl T.i_MOST_LINES_OF_A_SORT) (nomark _)) (pe_one (pe_cmpR op_lt (pe_ix ix_tup (pe_ix ix_list (pv 2) (pe_un un_neg pe_int) (fun _ _ => rfl)) pe_int (fun _ _ => rfl)) (pe_gi rfl T.i_LAST_NUMBER) (nomark _))))))) pss_nil) (pss_one (ps_ret pe_bl))))))), ?_⟩
  obtain ⟨a, p, k, i, rfl, hi, hC, h7, h12, b1, b2, b3, q⟩ := h
  obtain ⟨dx, mv, hself, hmv⟩ := hC.self
  have no : ∀ j, i ≠ j → decide (i = j) = false := fun j z => decide_eq_false z
  refine ⟨_, rfl, rfl, _, rfl, ite2 (fun h1 => ?_) fun h1 => ?_⟩
  · rw [wq5 i hi, decide_eq_true_eq] at h1
    subst h1
    refine ⟨_, rfl, _, _, _, _, _, rfl, hself, T.c_CheckList.cl, T.na_CheckList_not_after_blank, clF_nob, ?_⟩
    have e : mayRep k 5 = (decide (k.nob.length < 64) && someSign (afterAll k.nob) 12351 []) := rfl
    refine ⟨_, rfl, _, _, rfl, hC.nob, _, _, rfl, rfl, _, rfl, ite2 (fun h2 => ?_) fun h2 => ?_⟩
    · have h2 : k.nob.length < 64 := by
        rw [tr_len] at h2
        simp at h2
        omega
      refine ⟨_, rfl, _, _, k.nob, rfl, hC.nob, tr_keys, fun H1 hs1 l hl => ⟨_, 12351, l, [], rfl, ?_, upd_same, ?_⟩⟩
      · have := after_le b1
        omega
      · have := q _ (hs1.trans (.new (o := .dK []) hl))
        rw [e, decide_eq_true h2, Bool.true_and] at this
        exact this
    · have h2 : ¬ k.nob.length < 64 := by
        rw [tr_len] at h2
        simp at h2
        omega
      have := q _ .refl
      rw [e, decide_eq_false h2, Bool.false_and] at this
      exact this
  rw [wq5 i hi, decide_eq_true_eq] at h1
  refine ⟨_, rfl, rfl, _, rfl, ite2 (fun h2 => ?_) fun h2 => ?_⟩
  · rw [wq6 i hi, decide_eq_true_eq] at h2
    subst h2
    refine ⟨_, rfl, _, _, _, _, _, rfl, hself, T.c_CheckList.cl, T.na_CheckList_after_blank, clF_aft, ?_⟩
    have e : mayRep k 6 = (decide (k.aft.length < 64) && someSign (afterAll k.aft) 12351 k.nob) := rfl
    refine ⟨_, rfl, _, _, rfl, hC.aft, _, _, rfl, rfl, _, rfl, ite2 (fun h3 => ?_) fun h3 => ?_⟩
    · have h3 : k.aft.length < 64 := by
        rw [tr_len] at h3
        simp at h3
        omega
      refine ⟨_, rfl, _, _, k.aft, rfl, hC.aft, tr_keys, fun H1 hs1 => ⟨_, rfl, _, _, _, _, _, rfl, hs1.at hself, T.c_CheckList.cl, T.na_CheckList_not_after_blank, clF_nob, _, 12351, _, _, rfl, ?_, (hC.sm hs1).nob, ?_⟩⟩
      · have := after_le b2
        omega
      · have := q _ hs1
        rw [e, decide_eq_true h3, Bool.true_and] at this
        exact this
    · have h3 : ¬ k.aft.length < 64 := by
        rw [tr_len] at h3
        simp at h3
        omega
      have := q _ .refl
      rw [e, decide_eq_false h3, Bool.false_and] at this
      exact this
  rw [wq6 i hi, decide_eq_true_eq] at h2
  refine ⟨_, rfl, rfl, _, rfl, ite2 (fun h3 => ?_) fun h3 => ?_⟩
  · rw [wq7 i hi, decide_eq_true_eq] at h3
    subst h3
    refine ⟨_, rfl, _, _, _, _, _, rfl, hself, T.c_CheckList.cl, T.na_CheckList_endings, clF_ends, ?_⟩
    have e : mayRep k 7 = (decide (k.ends.length < 64) && decide (k.ends.getLast? ≠ some (12351, 12351))) := rfl
    obtain ⟨ts, ht1, ht2, ht3⟩ := hC.ends
    refine ⟨_, rfl, _, _, rfl, len_l (SqL.of ht1), _, _, rfl, rfl, _, rfl, ite2 (fun h4 => ?_) fun h4 => ?_⟩
    · have h4 : k.ends.length < 64 := by
        rw [List.length_map, ht2] at h4
        simp at h4
        omega
      obtain ⟨x, t, hx, ht, hat⟩ := PL.last ⟨ts, ht1, ht2, ht3⟩ ht1 (h7 rfl)
      refine ⟨_, rfl, _, rfl, _, _, _, _, rfl, rfl, SqL.of ht1, hat, by show 2 ≤ sizeLine; decide, fun u hu => ⟨_, _, .tup (SqT.of ((Sm.new (K := K) hu).at ht)) dp2, .tup (SqT.of upd_same) dp2, sh2 _ _, sh2 _ _, ?_⟩⟩
      have := q _ (.new (o := .tup [.int 12351, .int 12351]) hu)
      rw [e, decide_eq_true h4, Bool.true_and, hx] at this
      rw [eqv2]
      have e2 : (!decide (x = (12351, 12351))) = decide (some x ≠ some (12351, 12351)) := by simp
      exact e2 ▸ this
    · have h4 : ¬ k.ends.length < 64 := by
        rw [List.length_map, ht2] at h4
        simp at h4
        omega
      have := q _ .refl
      rw [e, decide_eq_false h4, Bool.false_and] at this
      exact this
  rw [wq7 i hi, decide_eq_true_eq] at h3
  refine ⟨_, rfl, rfl, _, rfl, ite2 (fun h4 => ?_) fun h4 => ?_⟩
  · rw [wq8 i hi, decide_eq_true_eq] at h4
    subst h4
    refine ⟨_, rfl, _, _, _, _, _, rfl, hself, T.c_CheckList.cl, T.na_CheckList_partners, clF_par, ?_⟩
    have e : mayRep k 8 = (decide (k.pairs.length < 64) && someSign (afterAll (k.pairs.map Prod.fst)) 12351 k.bra) := rfl
    refine ⟨_, rfl, _, _, rfl, hC.par, _, _, rfl, rfl, _, rfl, ite2 (fun h5 => ?_) fun h5 => ?_⟩
    · have h5 : k.pairs.length < 64 := by
        rw [parD, List.length_map] at h5
        simp at h5
        omega
      refine ⟨_, rfl, _, _, k.pairs.map Prod.fst, rfl, hC.par, par_keys, fun H1 hs1 => ⟨_, rfl, _, _, _, _, _, rfl, hs1.at hself, T.c_CheckList.cl, T.na_CheckList_brackets, clF_bra, _, 12351, _, _, rfl, ?_, (hC.sm hs1).bra, ?_⟩⟩
      · have := after_le (l := k.pairs.map Prod.fst) (n := 2 ^ 30) fun y hy => by
          obtain ⟨z, hz, rfl⟩ := List.mem_map.mp hy
          exact b3 z hz
        omega
      · have := q _ hs1
        rw [e, decide_eq_true h5, Bool.true_and] at this
        exact this
    · have h5 : ¬ k.pairs.length < 64 := by
        rw [parD, List.length_map] at h5
        simp at h5
        omega
      have := q _ .refl
      rw [e, decide_eq_false h5, Bool.false_and] at this
      exact this
  rw [wq8 i hi, decide_eq_true_eq] at h4
  refine ⟨_, rfl, rfl, _, rfl, ite2 (fun h5 => ?_) fun h5 => ?_⟩
  · rw [wq12 i hi, decide_eq_true_eq] at h5
    subst h5
    refine ⟨_, rfl, _, _, _, _, _, rfl, hself, T.c_CheckList.cl, T.na_CheckList_ranges, clF_rng, ?_⟩
    have e : mayRep k 12 = (decide (k.ranges.length < 64) && decide (∀ x ∈ k.ranges.getLast?, x.2 < 1114111)) := rfl
    obtain ⟨ts, ht1, ht2, ht3⟩ := hC.rng
    refine ⟨_, rfl, _, _, rfl, len_l (SqL.of ht1), _, _, rfl, rfl, _, rfl, ite2 (fun h6 => ?_) fun h6 => ?_⟩
    · have h6 : k.ranges.length < 64 := by
        rw [List.length_map, ht2] at h6
        simp at h6
        omega
      obtain ⟨x, t, hx, ht, hat⟩ := PL.last ⟨ts, ht1, ht2, ht3⟩ ht1 (h12 rfl)
      refine ⟨_, rfl, _, rfl, _, _, _, _, rfl, rfl, SqL.of ht1, hat, _, _, _, _, rfl, rfl, SqT.of ht, (rfl : atI [V.int (x.1 : Nat), V.int (x.2 : Nat)] 1 = some _), _, _, rfl, rfl, ?_⟩
      have := q _ .refl
      rw [e, decide_eq_true h6, Bool.true_and, hx] at this
      have e2 : decide ((x.2 : Int) < 1114111) = decide (∀ y ∈ some x, y.2 < 1114111) := by
        rw [decide_eq_decide]
        constructor
        · rintro z y hy
          cases hy
          omega
        · intro z
          have := z x rfl
          omega
      rw [← e2] at this
      exact this
    · have h6 : ¬ k.ranges.length < 64 := by
        rw [List.length_map, ht2] at h6
        simp at h6
        omega
      have := q _ .refl
      rw [e, decide_eq_false h6, Bool.false_and] at this
      exact this
  rw [wq12 i hi, decide_eq_true_eq] at h5
  have e : mayRep k i = false := by
    unfold mayRep
    rw [if_neg h1, if_neg h2, if_neg h3, if_neg h4, if_neg h5]
  rw [e] at q
  exact q _ .refl
end Tc
namespace Tc
open PySem PySem.Spec PyProof.Rows L2 Fh FhCheck LamX
variable {K : PySem.W.Frag} {mg : Str → Option Value} {base : Heap} {P : Program} {w : World}
/-! ### parts of the list written -/
structure CLo (K : PySem.W.Frag) (H : Hp) (a : Addr) (p : Pt) (k : CL) (x : Addr) : Prop where
  self : a ≠ x → ∃ dx mv, H a = some (.ins (ga K "CheckList") dx (clF p k mv)) ∧ MarkV H mv k.marks
  asked : p.asked ≠ x → H p.asked = some (.dK (askD k.asked))
  nob : p.nob ≠ x → DK H p.nob k.nob
  aft : p.aft ≠ x → DK H p.aft k.aft
  ends : p.ends ≠ x → PL H p.ends k.ends
  par : p.par ≠ x → H p.par = some (.dK (parD k.pairs))
  bra : p.bra ≠ x → DK H p.bra k.bra
  rng : p.rng ≠ x → PL H p.rng k.ranges
section
variable {H H' : Hp} {a x : Addr} {p : Pt} {k k' : CL} {o o1 : HO}
theorem CLs.rest (h : CLs K H a p k) (hx : H x = some o1) (hn : ∀ xs, o1 ≠ .tup xs) : CLo K (upd H x o) a p k x := by
  have kp : ∀ b u, H b = some u → b ≠ x → upd H x o b = some u := fun b u z n => by rw [upd_ne n]; exact z
  have k2 : ∀ t xs, H t = some (.tup xs) → upd H x o t = some (.tup xs) := fun t xs z => kp t _ z (ne_of z hx fun y => hn xs y.symm)
  refine ⟨fun n => ?_, fun n => kp _ _ h.asked n, fun n => kp _ _ h.nob n, fun n => kp _ _ h.aft n, fun n => h.ends.keep (fun _ z => kp _ _ z n) k2, fun n => kp _ _ h.par n, fun n => kp _ _ h.bra n, fun n => h.rng.keep (fun _ z => kp _ _ z n) k2⟩
  obtain ⟨dx, mv, h1, h2⟩ := h.self
  exact ⟨dx, mv, kp _ _ h1 n, h2.keep k2⟩
theorem CLs.setSelf {dx : Addr} {mv : V} (h : CLs K H a p k) (hm : MarkV H mv k'.marks) (e : (k'.asked, k'.nob, k'.aft, k'.ends, k'.pairs, k'.bra, k'.ranges) = (k.asked, k.nob, k.aft, k.ends, k.pairs, k.bra, k.ranges)) :
    CLs K (upd H a (.ins (ga K "CheckList") dx (clF p k' mv))) a p k' := by
  obtain ⟨dx1, mv1, h1, h2⟩ := id h.self
  have c := h.rest (o := .ins (ga K "CheckList") dx (clF p k' mv)) h1 (fun _ y => by cases y)
  simp only [Prod.mk.injEq] at e
  obtain ⟨e1, e2, e3, e4, e5, e6, e7⟩ := e
  have ne : ∀ {j : Nat} {y : Addr}, (p.own a)[j]? = some y → j ≠ 0 → y ≠ a := fun {j y} z n => ne_at h.nd z rfl n
  exact ⟨⟨dx, mv, upd_same, hm.keep fun t xs z => by rw [upd_ne (ne_of z h1 fun y => by cases y)]; exact z⟩, e1 ▸ c.asked (ne (j := 1) rfl (by decide)), e2 ▸ c.nob (ne (j := 2) rfl (by decide)), e3 ▸ c.aft (ne (j := 3) rfl (by decide)), e4 ▸ c.ends (ne (j := 4) rfl (by decide)), e5 ▸ c.par (ne (j := 5) rfl (by decide)), e6 ▸ c.bra (ne (j := 6) rfl (by decide)), e7 ▸ c.rng (ne (j := 7) rfl (by decide)), h.nd⟩
theorem CLs.set_asked {l : List Nat} (h : CLs K H a p k) (hx : H p.asked = some o1) (hn : ∀ xs, o1 ≠ .tup xs) (hnew : upd H p.asked o p.asked = some (.dK (askD l))) : CLs K (upd H p.asked o) a p { k with asked := l } := by
  have c := h.rest (o := o) hx hn
  have ne : ∀ {j : Nat} {y : Addr}, (p.own a)[j]? = some y → j ≠ 1 → y ≠ p.asked := fun {j y} z n => ne_at h.nd z rfl n
  exact ⟨c.self (ne (j := 0) rfl (by decide)), hnew, c.nob (ne (j := 2) rfl (by decide)), c.aft (ne (j := 3) rfl (by decide)), c.ends (ne (j := 4) rfl (by decide)), c.par (ne (j := 5) rfl (by decide)), c.bra (ne (j := 6) rfl (by decide)), c.rng (ne (j := 7) rfl (by decide)), h.nd⟩
theorem CLs.set_nob {l : List Nat} (h : CLs K H a p k) (hx : H p.nob = some o1) (hn : ∀ xs, o1 ≠ .tup xs) (hnew : DK (upd H p.nob o) p.nob l) : CLs K (upd H p.nob o) a p { k with nob := l } := by
  have c := h.rest (o := o) hx hn
  have ne : ∀ {j : Nat} {y : Addr}, (p.own a)[j]? = some y → j ≠ 2 → y ≠ p.nob := fun {j y} z n => ne_at h.nd z rfl n
  exact ⟨c.self (ne (j := 0) rfl (by decide)), c.asked (ne (j := 1) rfl (by decide)), hnew, c.aft (ne (j := 3) rfl (by decide)), c.ends (ne (j := 4) rfl (by decide)), c.par (ne (j := 5) rfl (by decide)), c.bra (ne (j := 6) rfl (by decide)), c.rng (ne (j := 7) rfl (by decide)), h.nd⟩
theorem CLs.set_aft {l : List Nat} (h : CLs K H a p k) (hx : H p.aft = some o1) (hn : ∀ xs, o1 ≠ .tup xs) (hnew : DK (upd H p.aft o) p.aft l) : CLs K (upd H p.aft o) a p { k with aft := l } := by
  have c := h.rest (o := o) hx hn
  have ne : ∀ {j : Nat} {y : Addr}, (p.own a)[j]? = some y → j ≠ 3 → y ≠ p.aft := fun {j y} z n => ne_at h.nd z rfl n
  exact ⟨c.self (ne (j := 0) rfl (by decide)), c.asked (ne (j := 1) rfl (by decide)), c.nob (ne (j := 2) rfl (by decide)), hnew, c.ends (ne (j := 4) rfl (by decide)), c.par (ne (j := 5) rfl (by decide)), c.bra (ne (j := 6) rfl (by decide)), c.rng (ne (j := 7) rfl (by decide)), h.nd⟩
theorem CLs.set_ends {l : List (Nat × Nat)} (h : CLs K H a p k) (hx : H p.ends = some o1) (hn : ∀ xs, o1 ≠ .tup xs) (hnew : PL (upd H p.ends o) p.ends l) : CLs K (upd H p.ends o) a p { k with ends := l } := by
  have c := h.rest (o := o) hx hn
  have ne : ∀ {j : Nat} {y : Addr}, (p.own a)[j]? = some y → j ≠ 4 → y ≠ p.ends := fun {j y} z n => ne_at h.nd z rfl n
  exact ⟨c.self (ne (j := 0) rfl (by decide)), c.asked (ne (j := 1) rfl (by decide)), c.nob (ne (j := 2) rfl (by decide)), c.aft (ne (j := 3) rfl (by decide)), hnew, c.par (ne (j := 5) rfl (by decide)), c.bra (ne (j := 6) rfl (by decide)), c.rng (ne (j := 7) rfl (by decide)), h.nd⟩
theorem CLs.set_par {l : List (Nat × Nat)} (h : CLs K H a p k) (hx : H p.par = some o1) (hn : ∀ xs, o1 ≠ .tup xs) (hnew : upd H p.par o p.par = some (.dK (parD l))) : CLs K (upd H p.par o) a p { k with pairs := l } := by
  have c := h.rest (o := o) hx hn
  have ne : ∀ {j : Nat} {y : Addr}, (p.own a)[j]? = some y → j ≠ 5 → y ≠ p.par := fun {j y} z n => ne_at h.nd z rfl n
  exact ⟨c.self (ne (j := 0) rfl (by decide)), c.asked (ne (j := 1) rfl (by decide)), c.nob (ne (j := 2) rfl (by decide)), c.aft (ne (j := 3) rfl (by decide)), c.ends (ne (j := 4) rfl (by decide)), hnew, c.bra (ne (j := 6) rfl (by decide)), c.rng (ne (j := 7) rfl (by decide)), h.nd⟩
theorem CLs.set_bra {l : List Nat} (h : CLs K H a p k) (hx : H p.bra = some o1) (hn : ∀ xs, o1 ≠ .tup xs) (hnew : DK (upd H p.bra o) p.bra l) : CLs K (upd H p.bra o) a p { k with bra := l } := by
  have c := h.rest (o := o) hx hn
  have ne : ∀ {j : Nat} {y : Addr}, (p.own a)[j]? = some y → j ≠ 6 → y ≠ p.bra := fun {j y} z n => ne_at h.nd z rfl n
  exact ⟨c.self (ne (j := 0) rfl (by decide)), c.asked (ne (j := 1) rfl (by decide)), c.nob (ne (j := 2) rfl (by decide)), c.aft (ne (j := 3) rfl (by decide)), c.ends (ne (j := 4) rfl (by decide)), c.par (ne (j := 5) rfl (by decide)), hnew, c.rng (ne (j := 7) rfl (by decide)), h.nd⟩
theorem CLs.set_rng {l : List (Nat × Nat)} (h : CLs K H a p k) (hx : H p.rng = some o1) (hn : ∀ xs, o1 ≠ .tup xs) (hnew : PL (upd H p.rng o) p.rng l) : CLs K (upd H p.rng o) a p { k with ranges := l } := by
  have c := h.rest (o := o) hx hn
  have ne : ∀ {j : Nat} {y : Addr}, (p.own a)[j]? = some y → j ≠ 7 → y ≠ p.rng := fun {j y} z n => ne_at h.nd z rfl n
  exact ⟨c.self (ne (j := 0) rfl (by decide)), c.asked (ne (j := 1) rfl (by decide)), c.nob (ne (j := 2) rfl (by decide)), c.aft (ne (j := 3) rfl (by decide)), c.ends (ne (j := 4) rfl (by decide)), c.par (ne (j := 5) rfl (by decide)), c.bra (ne (j := 6) rfl (by decide)), hnew, h.nd⟩
end
end Tc
namespace Tc
open PySem PySem.Spec PyProof.Rows L2 Fh FhCheck LamX
variable {K : PySem.W.Frag} {mg : Str → Option Value} {base : Heap} {P : Program} {w : World}
theorem tx_sp : Str.ofString " " = tx [32] := by decide +kernel
theorem tx_nl : Str.ofString "\n" = tx [10] := by decide +kernel
theorem tx_mi : Str.ofString "-" = tx [45] := by decide +kernel
def none4 : Bytes := [110, 111, 110, 101]
theorem tx_no : Str.ofString "none" = tx none4 := by decide +kernel
theorem tr_add (ks : List Nat) (c : Nat) : putK (tr ks) (Sum.inl (c : Int)) (.bl true) = tr (addN ks c) := by
  unfold addN
  by_cases h : ks.contains c = true
  · rw [if_pos h]
    have e : ((tr ks).any fun kv => decide (kv.1 = (Sum.inl (c : Int) : Key))) = true := by rw [valV_any, tr_val, h]
    unfold putK
    rw [e, if_pos rfl, tr, List.map_map]
    refine List.map_congr_left fun x _ => ?_; show (if (Sum.inl (x : Int) : Key) = Sum.inl (c : Int) then ((Sum.inl (x : Int) : Key), V.bl true) else (Sum.inl (x : Int), V.bl true)) = _
    split <;> rfl
  · rw [if_neg h]
    exact tr_put (by simpa using h)
theorem par_put (l : List (Nat × Nat)) (c d : Nat) : putK (parD l) (Sum.inl (c : Int)) (.int (d : Nat)) = parD (putP l c d) := by
  have e1 : ∀ x : Nat, decide ((Sum.inl (x : Int) : Key) = Sum.inl (c : Int)) = (x == c) := fun x => by
    rw [Bool.eq_iff_iff, decide_eq_true_eq, beq_iff_eq]
    constructor
    · intro z
      injection z with z
      omega
    · rintro rfl
      rfl
  have e : ((parD l).any fun kv => decide (kv.1 = (Sum.inl (c : Int) : Key))) = l.any fun x => x.1 == c := by
    rw [parD, List.any_map]
    congr 1
    funext x
    exact e1 x.1
  unfold putK putP
  rw [e]
  by_cases h : (l.any fun x => x.1 == c) = true
  · rw [if_pos h, if_pos h, parD, parD, List.map_map, List.map_map]
    refine List.map_congr_left fun x _ => ?_; show (if (Sum.inl (x.1 : Int) : Key) = Sum.inl (c : Int) then ((Sum.inl (x.1 : Int) : Key), V.int (d : Nat)) else (Sum.inl (x.1 : Int), V.int (x.2 : Nat))) = _
    have e2 := e1 x.1
    by_cases z : x.1 = c
    · have : (Sum.inl (x.1 : Int) : Key) = Sum.inl (c : Int) := by rw [z]
      rw [if_pos this]
      simp [Function.comp, z]
    · have : ¬ (Sum.inl (x.1 : Int) : Key) = Sum.inl (c : Int) := fun y => by
        rw [decide_eq_true y] at e2
        exact z (by simpa using e2.symm)
      rw [if_neg this]
      simp [Function.comp, z]
  · rw [if_neg h, if_neg h]
    simp [parD]
abbrev tup2 (x : Nat × Nat) : HO := .tup [.int (x.1 : Nat), .int (x.2 : Nat)]
/-- read_mark -/
def rMark (b : Bytes) (p : Nat) (ks : List Nat) : R (Nat × Nat) := if b[p]? = some 110 then (rWord b p none4).bind fun q => .ok (0, q) else rSign b p 0 ks
def spMark (K : PySem.W.Frag) : Sp := fun vs H Q E => ∃ (a : Addr) (b : Bytes) (p : Nat) (d : Addr) (ks : List Nat), vs = [.ref a, .int p, .ref d] ∧ SqL K H a (bv b) ∧ DK H d ks ∧ Tabs (Tb K) H ∧
  Res K (rMark b p ks) H E fun x H' => ∀ t, H' t = some (tup2 x) → Q (.ref t) H'
theorem ok_read_mark (T : Txt K mg) (tb : TB K mg base) : FnOk P w K mg base (L2N.CX P w) 7 (ga K "read_mark") (fd K "read_mark") ["data", "start", "barred"] (spMark K) := by
  refine okN T.d_read_mark.fn sc_read_mark (fun vs H Q E h => by obtain ⟨_, _, _, _, _, rfl, _⟩ := h; rfl) fun cdv A outer s H vs Q E hcd hr h => ?_
  refine ⟨_, (pss_cons (ps_if (PW.pt (pw_and (pt_cmpR op_lt (pv 1) (pe_callB call_len (by rfl) T.n_len (by decide +kernel) (pa_cons (pv 0) pa_nil)) (nomark _)) (pw_and1 (pt_cmpR op_eq (pe_ix ix_list (pv 0) (pv 1) (fun _ _ => rfl)) (pe_callB call_ord (by rfl) T.n_ord (by decide +kernel) (pa_cons pe_str pa_nil)) (nomark _))))) (pss_one (ps_ret (pe_tup (pa_cons (pe_gi rfl T.i_NO_MARK) (pa_cons (pe_call (ok_read_word T) (hr.mono (by decide)) rfl T.d_read_word.g T.d_read_word.k T.d_read_word.b .nil (L2N.passes_call tkN fun _ _ _ _ z => z) (pa_cons (pv 0) (pa_cons (pv 1) (pa_cons pe_str pa_nil)))) pa_nil))))) pss_nil) (pss_one (ps_ret (pe_call (ok_read_sign T tb) (hr.mono (by decide)) rfl T.d_read_sign.g T.d_read_sign.k T.d_read_sign.b .nil (L2N.passes_call tkN fun _ _ _ _ z => z) (pa_cons (pv 0) (pa_cons (pv 1) (pa_cons pe_int (pa_cons (pv 2) pa_nil)))))))), ?_⟩
  obtain ⟨a, b, p, d, ks, rfl, hS, hD, hT, h⟩ := h
  refine ans_use (b := decide (b[p]? = some 110)) (fun Q' q' => ?_) ?_
  · refine ⟨_, rfl, _, rfl, _, _, rfl, len_b hS, _, _, rfl, rfl, _, rfl, ite2 (fun h1 => ?_) fun h1 => ?_⟩
    · simp at h1
      obtain ⟨c, hc⟩ := lt_some (l := b) (i := p) (by omega)
      refine ⟨_, rfl, _, rfl, _, _, _, _, rfl, rfl, hS, bv_at hc, _, rfl, rfl, rfl, _, rfl, ?_⟩
      have e : decide (V.int (c.toNat : Int) = V.int 110) = decide (b[p]? = some 110) := by
        rw [hc, decide_eq_decide]
        constructor
        · intro z
          injection z with z
          have : c = 110 := UInt8.toNat_inj.mp (by show c.toNat = 110; omega)
          rw [this]
        · intro z
          cases z
          rfl
      rw [← e] at q'
      exact q'
    · simp at h1
      rw [List.getElem?_eq_none (by omega)] at q'
      exact q'
  by_cases hb : b[p]? = some 110
  · rw [decide_eq_true hb]
    rw [rMark, if_pos hb] at h
    refine ⟨_, rfl, _, rfl, a, b, none4, p, by rw [tx_no]; rfl, hS, h.step fun q H1 hq hs h => ⟨by show 2 ≤ sizeLine; decide, fun t ht => ?_⟩⟩
    exact h.okS (.new ht) t upd_same
  · rw [decide_eq_false hb]
    rw [rMark, if_neg hb] at h
    exact ⟨_, rfl, _, rfl, _, rfl, a, b, p, 0, d, ks, rfl, hS, hD, by decide, hT, h⟩
/-- read_spacing: the sign, the place -/
def rSpacing (b : Bytes) (p : Nat) (ks bs : List Nat) : R (Nat × Nat) := (rWord b p [32]).bind fun p => (rSign b p (afterAll ks) bs).bind fun x => (rWord b x.2 [10]).bind fun q => .ok (x.1, q)
def spSpacing (K : PySem.W.Frag) : Sp := fun vs H Q E => ∃ (kd d a : Addr) (b : Bytes) (p : Nat) (ks bs : List Nat), vs = [.ref kd, .ref d, .ref a, .int p] ∧ DK H kd ks ∧ DK H d bs ∧ SqL K H a (bv b) ∧ Tabs (Tb K) H ∧ (∀ c ∈ ks, c < 2 ^ 22) ∧ ks.length < 50000 ∧
  Res K (rSpacing b p ks bs) H E fun x H' => Q (.int (x.2 : Nat)) (upd H' kd (.dK (tr (addN ks x.1))))
theorem ok_read_spacing (T : Txt K mg) (tb : TB K mg base) : FnOk P w K mg base (L2N.CX P w) 7 (ga K "read_spacing") (fd K "read_spacing") ["kept", "barred", "data", "start"] (spSpacing K) := by
  refine okN T.d_read_spacing.fn sc_read_spacing (fun vs H Q E h => by obtain ⟨_, _, _, _, _, _, _, rfl, _⟩ := h; rfl) fun cdv A outer s H vs Q E hcd hr h => ?_
  refine ⟨_, (pss_cons (ps_set (i := 4) sc_read_spacing.nd rfl (Or.inl rfl) (pe_call (ok_read_word T) (hr.mono (by decide)) rfl T.d_read_word.g T.d_read_word.k T.d_read_word.b .nil (L2N.passes_call tkN fun _ _ _ _ z => z) (pa_cons (pv 2) (pa_cons (pv 3) (pa_cons pe_str pa_nil))))) (pss_cons (ps_asg (pe_call (ok_read_sign T tb) (hr.mono (by decide)) rfl T.d_read_sign.g T.d_read_sign.k T.d_read_sign.b .nil (L2N.passes_call tkN fun _ _ _ _ z => z) (pa_cons (pv 2) (pa_cons (pv 4) (pa_cons (pe_call (ok_after_all T) (hr.mono (by decide)) rfl T.d_after_all.g T.d_after_all.k T.d_after_all.b .nil pass0 (pa_cons (pv 0) pa_nil)) (pa_cons (pv 1) pa_nil))))) (pg_tup rfl (pgs_cons (pg_name (i := 5) sc_read_spacing.nd rfl (Or.inl rfl)) (pgs_cons (pg_name (i := 4) sc_read_spacing.nd rfl (Or.inl rfl)) pgs_nil)))) (pss_cons (ps_set (i := 4) sc_read_spacing.nd rfl (Or.inl rfl) (pe_call (ok_read_word T) (hr.mono (by decide)) rfl T.d_read_word.g T.d_read_word.k T.d_read_word.b .nil (L2N.passes_call tkN fun _ _ _ _ z => z) (pa_cons (pv 2) (pa_cons (pv 4) (pa_cons pe_str pa_nil))))) (pss_cons (ps_dput (hu_of hr) (pv 0) (pv 5) pe_bl rfl) (pss_one (ps_ret (pv 4))))))), ?_⟩
  obtain ⟨kd, d, a, b, p, ks, bs, rfl, hK, hD, hS, hT, hb, hl, h⟩ := h
  refine ⟨_, rfl, _, rfl, a, b, [32], p, by rw [tx_sp]; rfl, hS, h.step fun q1 H1 hq1 hs1 h => ?_⟩
  refine ⟨_, rfl, _, rfl, _, rfl, kd, _, ks, rfl, hs1.at hK, tr_keys, fun H2 hs2 => ⟨_, rfl, a, b, q1, afterAll ks, d, bs, rfl, hs2.l (hs1.l hS), hs2.at (hs1.at hD), by have := after_le hb; omega, hs2.t (hs1.t hT), (h.same hs2).step fun x H3 hx hs3 h t ht => ?_⟩⟩
  refine ⟨t, _, rfl, SqT.of ht, rfl, _, _, rfl, _, _, rfl, rfl, ?_⟩
  have hs13 := (hs1.trans hs2).trans hs3
  refine ⟨_, rfl, _, rfl, a, b, [10], x.2, by rw [tx_nl]; rfl, hs13.l hS, h.step fun q2 H4 hq2 hs4 h => ?_⟩
  have hK4 : DK H4 kd ks := hs4.at (hs13.at hK)
  refine ⟨_, rfl, _, rfl, kd, _, rfl, DPut.k (k := Sum.inl (x.1 : Int)) hK4 (by rw [tr_len]; exact Nat.lt_of_lt_of_le hl (by decide)), _, rfl, ?_⟩
  have h5 := h.ok
  rw [← tr_add] at h5
  exact h5
/-- read_limit -/
def rLimit (b : Bytes) (p most : Nat) : R (Nat × Nat) := (rWord b p [32]).bind fun p => (rNum b p 1 most).bind fun x => (rWord b x.2 [10]).bind fun q => .ok (x.1, q)
def spLimit (K : PySem.W.Frag) : Sp := fun vs H Q E => ∃ (a : Addr) (b : Bytes) (p most : Nat), vs = [.ref a, .int p, .int most] ∧ SqL K H a (bv b) ∧ most < 10000000 ∧ Res K (rLimit b p most) H E fun x H' => ∀ t, H' t = some (tup2 x) → Q (.ref t) H'
theorem ok_read_limit (T : Txt K mg) : FnOk P w K mg base (L2N.CX P w) 5 (ga K "read_limit") (fd K "read_limit") ["data", "start", "most"] (spLimit K) := by
  refine okN T.d_read_limit.fn sc_read_limit (fun vs H Q E h => by obtain ⟨_, _, _, _, rfl, _⟩ := h; rfl) fun cdv A outer s H vs Q E hcd hr h => ?_
  refine ⟨_, (pss_cons (ps_set (i := 3) sc_read_limit.nd rfl (Or.inl rfl) (pe_call (ok_read_word T) (hr.mono (by decide)) rfl T.d_read_word.g T.d_read_word.k T.d_read_word.b .nil (L2N.passes_call tkN fun _ _ _ _ z => z) (pa_cons (pv 0) (pa_cons (pv 1) (pa_cons pe_str pa_nil))))) (pss_cons (ps_asg (pe_call (ok_read_number T) (hr.mono (by decide)) rfl T.d_read_number.g T.d_read_number.k T.d_read_number.b .nil (L2N.passes_call tkN fun _ _ _ _ z => z) (pa_cons (pv 0) (pa_cons (pv 3) (pa_cons pe_int (pa_cons (pv 2) pa_nil))))) (pg_tup rfl (pgs_cons (pg_name (i := 4) sc_read_limit.nd rfl (Or.inl rfl)) (pgs_cons (pg_name (i := 3) sc_read_limit.nd rfl (Or.inl rfl)) pgs_nil)))) (pss_one (ps_ret (pe_tup (pa_cons (pv 4) (pa_cons (pe_call (ok_read_word T) (hr.mono (by decide)) rfl T.d_read_word.g T.d_read_word.k T.d_read_word.b .nil (L2N.passes_call tkN fun _ _ _ _ z => z) (pa_cons (pv 0) (pa_cons (pv 3) (pa_cons pe_str pa_nil)))) pa_nil))))))), ?_⟩
  obtain ⟨a, b, p, most, rfl, hS, hm, h⟩ := h
  refine ⟨_, rfl, _, rfl, a, b, [32], p, by rw [tx_sp]; rfl, hS, h.step fun q1 H1 hq1 hs1 h => ?_⟩
  refine ⟨_, rfl, _, rfl, _, rfl, a, b, q1, 1, most, rfl, hs1.l hS, hm, h.step fun x H2 hx hs2 h t ht => ?_⟩
  refine ⟨t, _, rfl, SqT.of ht, rfl, _, _, rfl, _, _, rfl, rfl, ?_⟩
  refine ⟨_, rfl, _, rfl, _, rfl, a, b, [10], x.2, by rw [tx_nl]; rfl, hs2.l (hs1.l hS), h.step fun q2 H3 hq2 hs3 h => ⟨by show 2 ≤ sizeLine; decide, fun u hu => ?_⟩⟩
  exact h.okS (.new hu) u upd_same
end Tc
namespace Tc
open PySem PySem.Spec PyProof.Rows L2 Fh FhCheck LamX
variable {K : PySem.W.Frag} {mg : Str → Option Value} {base : Heap} {P : Program} {w : World}
/-- the numbers of a list of checks are small -/
structure Bd (k : CL) : Prop where
  asked : ∀ i ∈ k.asked, i < 13
  nob : ∀ c ∈ k.nob, c < 2 ^ 22
  aft : ∀ c ∈ k.aft, c < 2 ^ 22
  ends : ∀ x ∈ k.ends, x.1 < 2 ^ 22 ∧ x.2 < 2 ^ 22
  pairs : ∀ x ∈ k.pairs, x.1 < 2 ^ 22
  ranges : ∀ x ∈ k.ranges, x.2 < 2 ^ 22
  sz : k.sz < 50000
/-- what is wished of a def that writes the list of checks -/
abbrev Wr (K : PySem.W.Frag) (a : Addr) (pt : Pt) (Q : VK) : CL × Nat → Hp → Prop := fun x H' => ∀ H'', Fr K (pt.own a) H' H'' → CLs K H'' a pt x.1 → Q (.int (x.2 : Nat)) H''
theorem own_at {p : Pt} {a : Addr} {j : Nat} {x : Addr} (h : (p.own a)[j]? = some x) : x ∈ p.own a := List.mem_of_getElem? h
def lastE (k : CL) : Nat × Nat := k.ends.getLast?.getD (0, 0)
def leastE (k : CL) : Nat := if (lastE k).2 = 12351 then (lastE k).1 + 1 else (lastE k).1
/-- read_ending -/
def rEnding (k : CL) (b : Bytes) (p : Nat) : R (CL × Nat) := (rWord b p [32]).bind fun p => (rSign b p (leastE k) []).bind fun x => (rWord b x.2 [32]).bind fun p => (rSign b p (if x.1 = (lastE k).1 then (lastE k).2 + 1 else 0) []).bind fun y => (rWord b y.2 [10]).bind fun q => .ok ({ k with ends := k.ends ++ [(x.1, y.1)] }, q)
def spWr (rd : CL → Bytes → Nat → R (CL × Nat)) (K : PySem.W.Frag) : Sp := fun vs H Q E => ∃ (a : Addr) (pt : Pt) (k : CL) (da : Addr) (b : Bytes) (p : Nat), vs = [.ref a, .ref da, .int p] ∧ CLs K H a pt k ∧ SqL K H da (bv b) ∧ Bd k ∧ Tabs (Tb K) H ∧ Res K (rd k b p) H E (Wr K a pt Q)
theorem PL.snoc {H : Hp} {e t : Addr} {l : List (Nat × Nat)} {ts : List Addr} {x : Nat × Nat} (h : PL H e l) (he : H e = some (.lst (ts.map V.ref))) (ht : T2 H t x) : PL (upd H e (.lst (ts.map V.ref ++ [.ref t]))) e (l ++ [x]) := by
  obtain ⟨ts', h1, h2, h3⟩ := h
  rw [he] at h1
  have e1 : ts = ts' := by
    injection h1 with h1
    injection h1 with h1
    exact (List.map_inj_right fun a b z => by injection z).mp h1
  subst e1
  refine ⟨ts ++ [t], by rw [upd_same, List.map_append]; rfl, by simp [h2], fun i y hy => ?_⟩
  by_cases hi : i < l.length
  · rw [List.getElem?_append_left hi] at hy
    obtain ⟨u, q1, q2⟩ := h3 i y hy
    refine ⟨u, by rw [List.getElem?_append_left (by omega)]; exact q1, ?_⟩
    rw [upd_ne (ne_of q2 he fun z => by cases z)]
    exact q2
  · rw [List.getElem?_append_right (by omega)] at hy
    have : i - l.length = 0 := by
      obtain ⟨z, _⟩ := List.getElem?_eq_some_iff.mp hy
      simp at z
      omega
    rw [this] at hy
    cases hy
    refine ⟨t, by rw [List.getElem?_append_right (by omega), h2, this]; rfl, ?_⟩
    rw [upd_ne (ne_of ht he fun z => by cases z)]
    exact ht
theorem asg_use {te : TE} {g : TG} {D : Ends} {σ : L2.St} {H : Hp} {P : V → Hp → Prop} (h : ∀ Q : VK, (∀ v H', P v H' → Q v H') → te σ H Q) (q : ∀ v H', P v H' → g v σ H' D.nx) : tAsg te g D σ H := h _ q
theorem val_use {te : TE} {σ : L2.St} {H : Hp} {v : V} {Q : VK} (h : ∀ Q : VK, Q v H → te σ H Q) (q : Q v H) : te σ H Q := h _ q
theorem ok_read_ending (T : Txt K mg) (tb : TB K mg base) : FnOk P w K mg base (L2N.CX P w) 7 (ga K "read_ending") (fd K "read_ending") ["checklist", "data", "start"] ((spWr rEnding) K) := by
  refine okN T.d_read_ending.fn sc_read_ending (fun vs H Q E h => by obtain ⟨_, _, _, _, _, _, rfl, _⟩ := h; rfl) fun cdv A outer s H vs Q E hcd hr h => ?_
  refine ⟨_, (pss_cons (ps_asg (pe_ifExp (pt_cmpR op_gt (pe_callB call_len (by rfl) T.n_len (by decide +kernel) (pa_cons (pe_fld (pv 0) rfl) pa_nil)) pe_int (nomark _)) (pe_ix ix_list (pe_fld (pv 0) rfl) (pe_un un_neg pe_int) (fun _ _ => rfl)) (pe_tup (pa_cons pe_int (pa_cons pe_int pa_nil)))) (pg_tup rfl (pgs_cons (pg_name (i := 3) sc_read_ending.nd rfl (Or.inl rfl)) (pgs_cons (pg_name (i := 4) sc_read_ending.nd rfl (Or.inl rfl)) pgs_nil)))) (pss_cons (ps_set (i := 5) sc_read_ending.nd rfl (Or.inl rfl) (pe_ifExp (pt_cmpR op_eq (pv 4) (pe_gi rfl T.i_LAST_SIGN) (nomark _)) (pe_op op_add (pv 3) pe_int) (pv 3))) (pss_cons (ps_set (i := 6) sc_read_ending.nd rfl (Or.inl rfl) (pe_call (ok_read_word T) (hr.mono (by decide)) rfl T.d_read_word.g T.d_read_word.k T.d_read_word.b .nil (L2N.passes_call tkN fun _ _ _ _ z => z) (pa_cons (pv 1) (pa_cons (pv 2) (pa_cons pe_str pa_nil))))) (pss_cons (ps_asg (pe_call (ok_read_sign T tb) (hr.mono (by decide)) rfl T.d_read_sign.g T.d_read_sign.k T.d_read_sign.b .nil (L2N.passes_call tkN fun _ _ _ _ z => z) (pa_cons (pv 1) (pa_cons (pv 6) (pa_cons (pv 5) (pa_cons pe_dnewK pa_nil))))) (pg_tup rfl (pgs_cons (pg_name (i := 7) sc_read_ending.nd rfl (Or.inl rfl)) (pgs_cons (pg_name (i := 6) sc_read_ending.nd rfl (Or.inl rfl)) pgs_nil)))) (pss_cons (ps_set (i := 6) sc_read_ending.nd rfl (Or.inl rfl) (pe_call (ok_read_word T) (hr.mono (by decide)) rfl T.d_read_word.g T.d_read_word.k T.d_read_word.b .nil (L2N.passes_call tkN fun _ _ _ _ z => z) (pa_cons (pv 1) (pa_cons (pv 6) (pa_cons pe_str pa_nil))))) (pss_cons (ps_asg (pe_call (ok_read_sign T tb) (hr.mono (by decide)) rfl T.d_read_sign.g T.d_read_sign.k T.d_read_sign.b .nil (L2N.passes_call tkN fun _ _ _ _ z => z) (pa_cons (pv 1) (pa_cons (pv 6) (pa_cons (pe_ifExp (pt_cmpR op_eq (pv 7) (pv 3) (nomark _)) (pe_op op_add (pv 4) pe_int) pe_int) (pa_cons pe_dnewK pa_nil))))) (pg_tup rfl (pgs_cons (pg_name (i := 8) sc_read_ending.nd rfl (Or.inl rfl)) (pgs_cons (pg_name (i := 6) sc_read_ending.nd rfl (Or.inl rfl)) pgs_nil)))) (pss_cons (ps_set (i := 6) sc_read_ending.nd rfl (Or.inl rfl) (pe_call (ok_read_word T) (hr.mono (by decide)) rfl T.d_read_word.g T.d_read_word.k T.d_read_word.b .nil (L2N.passes_call tkN fun _ _ _ _ z => z) (pa_cons (pv 1) (pa_cons (pv 6) (pa_cons pe_str pa_nil))))) (pss_cons (ps_expr (pe_bm PySem.F.plainAttrs_list PySem.F.slot_list_append PySem.F.type_list_append mt_append (pe_fld (pv 0) rfl) (pa_cons (pe_tup (pa_cons (pv 7) (pa_cons (pv 8) pa_nil))) pa_nil))) (pss_one (ps_ret (pv 6))))))))))), ?_⟩
  obtain ⟨a, pt, k, da, b, p, rfl, hC, hS, hB, hT, h⟩ := h
  obtain ⟨dx, mv, hself, hmv⟩ := hC.self
  obtain ⟨ts, ht1, ht2, ht3⟩ := hC.ends
  refine asg_use (P := fun v H' => ∃ t, v = .ref t ∧ Sm K H H' ∧ T2 H' t (lastE k)) (fun Q' q' => ?_) ?_
  · refine ⟨_, rfl, _, _, _, _, _, rfl, hself, T.c_CheckList.cl, T.na_CheckList_endings, clF_ends, _, _, rfl, len_l (SqL.of ht1), _, _, rfl, rfl, _, rfl, ite2 (fun h1 => ?_) fun h1 => ?_⟩
    · have hne : k.ends ≠ [] := fun z => by
        rw [z] at ht2
        rw [List.length_map, ht2] at h1
        cases h1
      obtain ⟨x, t, hx, ht, hat⟩ := PL.last ⟨ts, ht1, ht2, ht3⟩ ht1 hne
      refine ⟨_, rfl, _, _, _, _, _, rfl, hself, T.c_CheckList.cl, T.na_CheckList_endings, clF_ends, _, rfl, _, _, _, _, rfl, rfl, SqL.of ht1, hat, q' _ _ ⟨t, rfl, .refl, ?_⟩⟩
      rw [lastE, hx]
      exact ht
    · have he : k.ends = [] := by
        rw [List.length_map, ht2] at h1
        simp at h1
        exact h1
      refine ⟨by show 2 ≤ sizeLine; decide, fun t ht => q' _ _ ⟨t, rfl, .new ht, ?_⟩⟩
      rw [lastE, he]
      exact upd_same
  rintro v H0 ⟨t, rfl, hs0, ht⟩
  refine ⟨t, _, rfl, SqT.of ht, rfl, _, _, rfl, _, _, rfl, rfl, ?_⟩
  have h := h.same hs0
  dsimp only
  refine st_set (v := .int (leastE k : Nat)) (fun Q' q' => ?_) ?_
  · refine ⟨_, rfl, rfl, _, rfl, ite2 (fun h1 => ?_) fun h1 => ?_⟩
    · have h1 : (lastE k).2 = 12351 := by
        simp at h1
        omega
      refine ⟨_, rfl, _, _, rfl, rfl, ?_⟩
      rw [leastE, if_pos h1] at q'
      exact q'
    · have h1 : ¬ (lastE k).2 = 12351 := by
        simp at h1
        omega
      rw [leastE, if_neg h1] at q'
      exact ⟨_, rfl, q'⟩
  have bE : (lastE k).1 < 2 ^ 22 ∧ (lastE k).2 < 2 ^ 22 := by
    unfold lastE
    cases hx : k.ends.getLast? with
    | none => exact ⟨by decide, by decide⟩
    | some x => exact hB.ends x (List.mem_of_getLast? hx)
  have bL : leastE k < 2 ^ 23 := by
    unfold leastE
    split <;> omega
  refine ⟨_, rfl, _, rfl, da, b, [32], p, by rw [tx_sp]; rfl, hs0.l hS, h.step fun q1 H1 hq1 hs1 h => ?_⟩
  have hs1 := hs0.trans hs1
  refine ⟨_, rfl, _, rfl, _, rfl, fun d hd => ⟨da, b, q1, leastE k, d, [], rfl, (Sm.new hd).l (hs1.l hS), upd_same, by omega, (Sm.new hd).t (hs1.t hT), (h.same (.new hd)).step fun x H2 hx hs2 h u hu => ?_⟩⟩
  have hs2 := hs1.trans ((Sm.new hd).trans hs2)
  refine ⟨u, _, rfl, SqT.of hu, rfl, _, _, rfl, _, _, rfl, rfl, ?_⟩
  refine ⟨_, rfl, _, rfl, da, b, [32], x.2, by rw [tx_sp]; rfl, hs2.l hS, h.step fun q2 H3 hq2 hs3 h => ?_⟩
  have hs3 := hs2.trans hs3
  refine ⟨_, rfl, _, rfl, ?_⟩
  refine val_use (v := .int ((if x.1 = (lastE k).1 then (lastE k).2 + 1 else 0 : Nat) : Int)) (fun Q' q' => ?_) ?_
  · refine ⟨_, rfl, _, rfl, rfl, _, rfl, ite2 (fun h1 => ?_) fun h1 => ?_⟩
    · have h1 : x.1 = (lastE k).1 := by
        simp at h1
        omega
      rw [if_pos h1] at q'
      exact ⟨_, rfl, _, _, rfl, rfl, q'⟩
    · have h1 : ¬ x.1 = (lastE k).1 := by
        simp at h1
        omega
      rw [if_neg h1] at q'
      exact q'
  refine fun d2 hd2 => ⟨da, b, q2, _, d2, [], rfl, (Sm.new hd2).l (hs3.l hS), upd_same, by split <;> omega, (Sm.new hd2).t (hs3.t hT), (h.same (.new hd2)).step fun y H4 hy hs4 h u2 hu2 => ?_⟩
  have hs4 := hs3.trans ((Sm.new hd2).trans hs4)
  refine ⟨u2, _, rfl, SqT.of hu2, rfl, _, _, rfl, _, _, rfl, rfl, ?_⟩
  refine ⟨_, rfl, _, rfl, da, b, [10], y.2, by rw [tx_nl]; rfl, hs4.l hS, h.step fun q3 H5 hq3 hs5 h => ?_⟩
  have hs5 := hs4.trans hs5
  have hl5 := hs5.at ht1
  refine ⟨_, rfl, _, _, _, _, _, rfl, hs5.at hself, T.c_CheckList.cl, T.na_CheckList_endings, clF_ends, .inl ⟨rfl, _, SqL.of hl5⟩, _, rfl, _, rfl, by show 2 ≤ sizeLine; decide, fun w2 hw2 => ?_⟩
  have hlw := (Sm.new (K := K) (o := tup2 (x.1, y.1)) hw2).at hl5
  refine ⟨_, _, _, rfl, rfl, hlw, ?_, _, rfl, ?_⟩
  · rw [List.length_map, ht2]
    have := hB.sz
    unfold CL.sz at this
    exact Nat.lt_of_lt_of_le (show k.ends.length < 50000 by omega) (by decide)
  refine h.ok _ ((Fr.new hw2).trans (Fr.mut hlw trivial (own_at (j := 4) rfl))) (((hC.sm hs5).sm (.new hw2)).set_ends hlw (fun _ z => by cases z) ?_)
  exact PL.snoc ((hC.sm hs5).sm (.new hw2)).ends hlw upd_same
/-- read_range -/
def leastR (k : CL) : Nat := match k.ranges.getLast? with
  | some x => x.2 + 1
  | none => 0
def rRange (k : CL) (b : Bytes) (p : Nat) : R (CL × Nat) := (rWord b p [32]).bind fun p => (rNum b p (leastR k) 1114111).bind fun x => (rWord b x.2 [45]).bind fun p => (rNum b p x.1 1114111).bind fun y => (rWord b y.2 [10]).bind fun q => .ok ({ k with ranges := k.ranges ++ [(x.1, y.1)] }, q)
theorem ok_read_range (T : Txt K mg) : FnOk P w K mg base (L2N.CX P w) 5 (ga K "read_range") (fd K "read_range") ["checklist", "data", "start"] ((spWr rRange) K) := by
  refine okN T.d_read_range.fn sc_read_range (fun vs H Q E h => by obtain ⟨_, _, _, _, _, _, rfl, _⟩ := h; rfl) fun cdv A outer s H vs Q E hcd hr h => ?_
  refine ⟨_, (pss_cons (ps_set (i := 3) sc_read_range.nd rfl (Or.inl rfl) (pe_ifExp (pt_cmpR op_gt (pe_callB call_len (by rfl) T.n_len (by decide +kernel) (pa_cons (pe_fld (pv 0) rfl) pa_nil)) pe_int (nomark _)) (pe_op op_add (pe_ix ix_tup (pe_ix ix_list (pe_fld (pv 0) rfl) (pe_un un_neg pe_int) (fun _ _ => rfl)) pe_int (fun _ _ => rfl)) pe_int) pe_int)) (pss_cons (ps_set (i := 4) sc_read_range.nd rfl (Or.inl rfl) (pe_call (ok_read_word T) (hr.mono (by decide)) rfl T.d_read_word.g T.d_read_word.k T.d_read_word.b .nil (L2N.passes_call tkN fun _ _ _ _ z => z) (pa_cons (pv 1) (pa_cons (pv 2) (pa_cons pe_str pa_nil))))) (pss_cons (ps_asg (pe_call (ok_read_number T) (hr.mono (by decide)) rfl T.d_read_number.g T.d_read_number.k T.d_read_number.b .nil (L2N.passes_call tkN fun _ _ _ _ z => z) (pa_cons (pv 1) (pa_cons (pv 4) (pa_cons (pv 3) (pa_cons (pe_gi rfl T.i_LAST_NUMBER) pa_nil))))) (pg_tup rfl (pgs_cons (pg_name (i := 5) sc_read_range.nd rfl (Or.inl rfl)) (pgs_cons (pg_name (i := 4) sc_read_range.nd rfl (Or.inl rfl)) pgs_nil)))) (pss_cons (ps_set (i := 4) sc_read_range.nd rfl (Or.inl rfl) (pe_call (ok_read_word T) (hr.mono (by decide)) rfl T.d_read_word.g T.d_read_word.k T.d_read_word.b .nil (L2N.passes_call tkN fun _ _ _ _ z => z) (pa_cons (pv 1) (pa_cons (pv 4) (pa_cons pe_str pa_nil))))) (pss_cons (ps_asg (pe_call (ok_read_number T) (hr.mono (by decide)) rfl T.d_read_number.g T.d_read_number.k T.d_read_number.b .nil (L2N.passes_call tkN fun _ _ _ _ z => z) (pa_cons (pv 1) (pa_cons (pv 4) (pa_cons (pv 5) (pa_cons (pe_gi rfl T.i_LAST_NUMBER) pa_nil))))) (pg_tup rfl (pgs_cons (pg_name (i := 6) sc_read_range.nd rfl (Or.inl rfl)) (pgs_cons (pg_name (i := 4) sc_read_range.nd rfl (Or.inl rfl)) pgs_nil)))) (pss_cons (ps_set (i := 4) sc_read_range.nd rfl (Or.inl rfl) (pe_call (ok_read_word T) (hr.mono (by decide)) rfl T.d_read_word.g T.d_read_word.k T.d_read_word.b .nil (L2N.passes_call tkN fun _ _ _ _ z => z) (pa_cons (pv 1) (pa_cons (pv 4) (pa_cons pe_str pa_nil))))) (pss_cons (ps_expr (pe_bm PySem.F.plainAttrs_list PySem.F.slot_list_append PySem.F.type_list_append mt_append (pe_fld (pv 0) rfl) (pa_cons (pe_tup (pa_cons (pv 5) (pa_cons (pv 6) pa_nil))) pa_nil))) (pss_one (ps_ret (pv 4)))))))))), ?_⟩
  obtain ⟨a, pt, k, da, b, p, rfl, hC, hS, hB, hT, h⟩ := h
  obtain ⟨dx, mv, hself, hmv⟩ := hC.self
  obtain ⟨ts, ht1, ht2, ht3⟩ := hC.rng
  refine st_set (v := .int (leastR k : Nat)) (fun Q' q' => ?_) ?_
  · refine ⟨_, rfl, _, _, _, _, _, rfl, hself, T.c_CheckList.cl, T.na_CheckList_ranges, clF_rng, _, _, rfl, len_l (SqL.of ht1), _, _, rfl, rfl, _, rfl, ite2 (fun h1 => ?_) fun h1 => ?_⟩
    · have hne : k.ranges ≠ [] := fun z => by
        rw [z] at ht2
        rw [List.length_map, ht2] at h1
        cases h1
      obtain ⟨x, t, hx, ht, hat⟩ := PL.last ⟨ts, ht1, ht2, ht3⟩ ht1 hne
      rw [leastR, hx] at q'
      exact ⟨_, rfl, _, _, _, _, _, rfl, hself, T.c_CheckList.cl, T.na_CheckList_ranges, clF_rng, _, rfl, _, _, _, _, rfl, rfl, SqL.of ht1, hat, _, _, _, _, rfl, rfl, SqT.of ht, (rfl : atI [V.int (x.1 : Nat), V.int (x.2 : Nat)] 1 = some _), _, _, rfl, rfl, q'⟩
    · have he : k.ranges = [] := by
        rw [List.length_map, ht2] at h1
        simp at h1
        exact h1
      rw [leastR, he] at q'
      exact q'
  refine ⟨_, rfl, _, rfl, da, b, [32], p, by rw [tx_sp]; rfl, hS, h.step fun q1 H1 hq1 hs1 h => ?_⟩
  refine ⟨_, rfl, _, rfl, _, rfl, da, b, q1, leastR k, 1114111, rfl, hs1.l hS, by decide, h.step fun x H2 hx hs2 h u hu => ?_⟩
  have hs2 := hs1.trans hs2
  refine ⟨u, _, rfl, SqT.of hu, rfl, _, _, rfl, _, _, rfl, rfl, ?_⟩
  refine ⟨_, rfl, _, rfl, da, b, [45], x.2, by rw [tx_mi]; rfl, hs2.l hS, h.step fun q2 H3 hq2 hs3 h => ?_⟩
  have hs3 := hs2.trans hs3
  refine ⟨_, rfl, _, rfl, _, rfl, da, b, q2, x.1, 1114111, rfl, hs3.l hS, by decide, h.step fun y H4 hy hs4 h u2 hu2 => ?_⟩
  have hs4 := hs3.trans hs4
  refine ⟨u2, _, rfl, SqT.of hu2, rfl, _, _, rfl, _, _, rfl, rfl, ?_⟩
  refine ⟨_, rfl, _, rfl, da, b, [10], y.2, by rw [tx_nl]; rfl, hs4.l hS, h.step fun q3 H5 hq3 hs5 h => ?_⟩
  have hs5 := hs4.trans hs5
  have hl5 := hs5.at ht1
  refine ⟨_, rfl, _, _, _, _, _, rfl, hs5.at hself, T.c_CheckList.cl, T.na_CheckList_ranges, clF_rng, .inl ⟨rfl, _, SqL.of hl5⟩, _, rfl, _, rfl, by show 2 ≤ sizeLine; decide, fun w2 hw2 => ?_⟩
  have hlw := (Sm.new (K := K) (o := tup2 (x.1, y.1)) hw2).at hl5
  refine ⟨_, _, _, rfl, rfl, hlw, ?_, _, rfl, ?_⟩
  · rw [List.length_map, ht2]
    have := hB.sz
    unfold CL.sz at this
    exact Nat.lt_of_lt_of_le (show k.ranges.length < 50000 by omega) (by decide)
  refine h.ok _ ((Fr.new hw2).trans (Fr.mut hlw trivial (own_at (j := 7) rfl))) (((hC.sm hs5).sm (.new hw2)).set_rng hlw (fun _ z => by cases z) ?_)
  exact PL.snoc ((hC.sm hs5).sm (.new hw2)).rng hlw upd_same
end Tc
namespace Tc
open PySem PySem.Spec PyProof.Rows L2 Fh FhCheck LamX
variable {K : PySem.W.Frag} {mg : Str → Option Value} {base : Heap} {P : Program} {w : World}
/-- read_pair -/
def rPair (k : CL) (b : Bytes) (p : Nat) : R (CL × Nat) := (rWord b p [32]).bind fun p => (rSign b p (afterAll (k.pairs.map Prod.fst)) k.bra).bind fun x => (rWord b x.2 [32]).bind fun p => (rSign b p 0 (addN k.bra x.1)).bind fun y => (rWord b y.2 [10]).bind fun q =>
  .ok ({ k with pairs := putP k.pairs x.1 y.1, bra := addN (addN k.bra x.1) y.1 }, q)
theorem len_addN (l : List Nat) (c : Nat) : (addN l c).length ≤ l.length + 1 := by
  unfold addN
  split
  · omega
  · simp
theorem ok_read_pair (T : Txt K mg) (tb : TB K mg base) : FnOk P w K mg base (L2N.CX P w) 7 (ga K "read_pair") (fd K "read_pair") ["checklist", "data", "start"] ((spWr rPair) K) := by
  refine okN T.d_read_pair.fn sc_read_pair (fun vs H Q E h => by obtain ⟨_, _, _, _, _, _, rfl, _⟩ := h; rfl) fun cdv A outer s H vs Q E hcd hr h => ?_
  refine ⟨_, (pss_cons (ps_set (i := 3) sc_read_pair.nd rfl (Or.inl rfl) (pe_call (ok_read_word T) (hr.mono (by decide)) rfl T.d_read_word.g T.d_read_word.k T.d_read_word.b .nil (L2N.passes_call tkN fun _ _ _ _ z => z) (pa_cons (pv 1) (pa_cons (pv 2) (pa_cons pe_str pa_nil))))) (pss_cons (ps_asg (pe_call (ok_read_sign T tb) (hr.mono (by decide)) rfl T.d_read_sign.g T.d_read_sign.k T.d_read_sign.b .nil (L2N.passes_call tkN fun _ _ _ _ z => z) (pa_cons (pv 1) (pa_cons (pv 3) (pa_cons (pe_call (ok_after_all T) (hr.mono (by decide)) rfl T.d_after_all.g T.d_after_all.k T.d_after_all.b .nil pass0 (pa_cons (pe_fld (pv 0) rfl) pa_nil)) (pa_cons (pe_fld (pv 0) rfl) pa_nil))))) (pg_tup rfl (pgs_cons (pg_name (i := 4) sc_read_pair.nd rfl (Or.inl rfl)) (pgs_cons (pg_name (i := 3) sc_read_pair.nd rfl (Or.inl rfl)) pgs_nil)))) (pss_cons (ps_set (i := 3) sc_read_pair.nd rfl (Or.inl rfl) (pe_call (ok_read_word T) (hr.mono (by decide)) rfl T.d_read_word.g T.d_read_word.k T.d_read_word.b .nil (L2N.passes_call tkN fun _ _ _ _ z => z) (pa_cons (pv 1) (pa_cons (pv 3) (pa_cons pe_str pa_nil))))) (pss_cons (ps_set (i := 5) sc_read_pair.nd rfl (Or.inl rfl) (pe_callTy call_dictD (by rfl) T.n_dict (by decide +kernel) (pa_cons (pe_fld (pv 0) rfl) pa_nil))) (pss_cons (ps_dput (hu_of hr) (pv 5) (pv 4) pe_bl rfl) (pss_cons (ps_asg (pe_call (ok_read_sign T tb) (hr.mono (by decide)) rfl T.d_read_sign.g T.d_read_sign.k T.d_read_sign.b .nil (L2N.passes_call tkN fun _ _ _ _ z => z) (pa_cons (pv 1) (pa_cons (pv 3) (pa_cons pe_int (pa_cons (pv 5) pa_nil))))) (pg_tup rfl (pgs_cons (pg_name (i := 6) sc_read_pair.nd rfl (Or.inl rfl)) (pgs_cons (pg_name (i := 3) sc_read_pair.nd rfl (Or.inl rfl)) pgs_nil)))) (pss_cons (ps_set (i := 3) sc_read_pair.nd rfl (Or.inl rfl) (pe_call (ok_read_word T) (hr.mono (by decide)) rfl T.d_read_word.g T.d_read_word.k T.d_read_word.b .nil (L2N.passes_call tkN fun _ _ _ _ z => z) (pa_cons (pv 1) (pa_cons (pv 3) (pa_cons pe_str pa_nil))))) (pss_cons (ps_dput (hu_of hr) (pe_fld (pv 0) rfl) (pv 4) (pv 6) rfl) (pss_cons (ps_dput (hu_of hr) (pe_fld (pv 0) rfl) (pv 4) pe_bl rfl) (pss_cons (ps_dput (hu_of hr) (pe_fld (pv 0) rfl) (pv 6) pe_bl rfl) (pss_one (ps_ret (pv 3))))))))))))), ?_⟩
  obtain ⟨a, pt, k, da, b, p, rfl, hC, hS, hB, hT, h⟩ := h
  obtain ⟨dx, mv, hself, hmv⟩ := hC.self
  have hsz := hB.sz
  unfold CL.sz at hsz
  refine ⟨_, rfl, _, rfl, da, b, [32], p, by rw [tx_sp]; rfl, hS, h.step fun q1 H1 hq1 hs1 h => ?_⟩
  refine ⟨_, rfl, _, rfl, _, rfl, _, _, _, _, _, rfl, hs1.at hself, T.c_CheckList.cl, T.na_CheckList_partners, clF_par, pt.par, _, k.pairs.map Prod.fst, rfl, hs1.at hC.par, par_keys, fun H2 hs2 => ?_⟩
  have h := h.same hs2
  have hs2 := hs1.trans hs2
  refine ⟨_, rfl, _, _, _, _, _, rfl, hs2.at hself, T.c_CheckList.cl, T.na_CheckList_brackets, clF_bra, da, b, q1, _, pt.bra, k.bra, rfl, hs2.l hS, hs2.at hC.bra, ?_, hs2.t hT, h.step fun x H3 hx hs3 h u hu => ?_⟩
  · have := after_le (l := k.pairs.map Prod.fst) (n := 2 ^ 22) fun y hy => by
      obtain ⟨z, hz, rfl⟩ := List.mem_map.mp hy
      exact hB.pairs z hz
    omega
  have hs3 := hs2.trans hs3
  refine ⟨u, _, rfl, SqT.of hu, rfl, _, _, rfl, _, _, rfl, rfl, ?_⟩
  refine ⟨_, rfl, _, rfl, da, b, [32], x.2, by rw [tx_sp]; rfl, hs3.l hS, h.step fun q2 H4 hq2 hs4 h => ?_⟩
  have hs4 := hs3.trans hs4
  refine ⟨_, rfl, _, _, _, _, _, rfl, hs4.at hself, T.c_CheckList.cl, T.na_CheckList_brackets, clF_bra, pt.bra, _, rfl, .inl (hs4.at hC.bra), fun d hd => ?_⟩
  have hs5 : Sm K H (upd H4 d (.dK (tr k.bra))) := hs4.trans (.new hd)
  have n0 : H d = none := hs4.f d hd
  refine ⟨_, rfl, _, rfl, d, _, rfl, DPut.k (k := Sum.inl (x.1 : Int)) (upd_same : upd H4 d (.dK (tr k.bra)) d = some (.dK (tr k.bra))) (by rw [tr_len]; exact Nat.lt_of_lt_of_le (show k.bra.length < 50000 by omega) (by decide)), ?_⟩
  rw [tr_add]
  have n46 : Sm K H4 (upd (upd H4 d (.dK (tr k.bra))) d (.dK (tr (addN k.bra x.1)))) := (Sm.new hd).mut hd upd_same trivial
  have h := h.same n46
  have hs6 := hs4.trans n46
  refine ⟨_, rfl, _, rfl, _, rfl, da, b, q2, 0, d, addN k.bra x.1, rfl, hs6.l hS, upd_same, by decide, hs6.t hT, h.step fun y H7 hy hs7 h u2 hu2 => ?_⟩
  have hs7 := hs6.trans hs7
  refine ⟨u2, _, rfl, SqT.of hu2, rfl, _, _, rfl, _, _, rfl, rfl, ?_⟩
  refine ⟨_, rfl, _, rfl, da, b, [10], y.2, by rw [tx_nl]; rfl, hs7.l hS, h.step fun q3 H8 hq3 hs8 h => ?_⟩
  have hs8 := hs7.trans hs8
  have c8 := hC.sm hs8
  have s8 := hs8.at hself
  refine ⟨_, rfl, _, rfl, _, _, _, _, _, rfl, s8, T.c_CheckList.cl, T.na_CheckList_partners, clF_par, _, rfl, pt.par, _, rfl, DPut.k (k := Sum.inl (x.1 : Int)) c8.par (by rw [parD, List.length_map]; exact Nat.lt_of_lt_of_le (show k.pairs.length < 50000 by omega) (by decide)), ?_⟩
  rw [par_put]
  have c9 := c8.set_par (o := .dK (parD (putP k.pairs x.1 y.1))) c8.par (fun _ z => by cases z) upd_same
  obtain ⟨dx9, mv9, s9, hm9⟩ := c9.self
  refine ⟨_, rfl, _, _, _, _, _, rfl, s9, T.c_CheckList.cl, T.na_CheckList_brackets, clF_bra, _, rfl, pt.bra, _, rfl, DPut.k (k := Sum.inl (x.1 : Int)) c9.bra (by rw [tr_len]; exact Nat.lt_of_lt_of_le (show k.bra.length < 50000 by omega) (by decide)), ?_⟩
  rw [tr_add]
  have c10 := c9.set_bra (o := .dK (tr (addN k.bra x.1))) c9.bra (fun _ z => by cases z) upd_same
  obtain ⟨dx10, mv10, s10, hm10⟩ := c10.self
  refine ⟨_, rfl, _, _, _, _, _, rfl, s10, T.c_CheckList.cl, T.na_CheckList_brackets, clF_bra, _, rfl, pt.bra, _, rfl, DPut.k (k := Sum.inl (y.1 : Int)) c10.bra (by rw [tr_len]; exact Nat.lt_of_lt_of_le (show (addN k.bra x.1).length < 50001 by have := len_addN k.bra x.1; omega) (by decide)), _, rfl, ?_⟩
  rw [tr_add]
  exact h.ok _ (((Fr.mut c8.par trivial (own_at (j := 5) rfl)).trans (Fr.mut c9.bra trivial (own_at (j := 6) rfl))).trans (Fr.mut c10.bra trivial (own_at (j := 6) rfl))) (c10.set_bra c10.bra (fun _ z => by cases z) upd_same)
def fMarks (k : CL) (b : Bytes) : List Nat × Nat → R (CL × Nat) := fun x => (rWord b x.2 [10]).bind fun q => .ok ({ k with marks := some ((x.1.getD 0 0, x.1.getD 1 0), (x.1.getD 2 0, x.1.getD 3 0)) }, q)
def barM (ms : List Nat) : List Nat := if ms.length = 1 ∨ ms.length = 3 then [ms.getLast?.getD 0] else []
/-- read_marks: n more of them -/
def rmGo (b : Bytes) : Nat → List Nat → Nat → R (List Nat × Nat)
  | 0, ms, p => .ok (ms, p)
  | n + 1, ms, p => (rWord b p [32]).bind fun p => (rMark b p (barM ms)).bind fun x => rmGo b n (ms ++ [x.1]) x.2
def rMarks (k : CL) (b : Bytes) (p : Nat) : R (CL × Nat) := (rmGo b 4 [] p).bind (fMarks k b)
def invMk (K : PySem.W.Frag) (b : Bytes) (a da : Addr) (p : Nat) (ml : Addr) (H0 : Hp) (E : XK) {β : Type} (f : List Nat × Nat → R β) (G : β → Hp → Prop) (i : Nat) (σ : L2.St) (H : Hp) : Prop :=
  ∃ (ms : List Nat) (q : Nat) (o1 o2 o3 : Option V), ms.length = i ∧ σ = [some (.ref a), some (.ref da), some (.int p), some (.int (q : Nat)), some (.ref ml), o1, o2, o3] ∧ Sm K H0 H ∧ H ml = some (.lst (nv ms)) ∧ Res K ((rmGo b (4 - i) ms q).bind f) H0 E G
/-- as Res.step, what is wished stays told of the heap at the def's start -/
theorem Res.stepA {H Hc : Hp} {E : XK} {α β : Type} {r : R α} {f : α → R β} {Q : α → Hp → Prop} {G : β → Hp → Prop} (h : Res K (r.bind f) H E G) (s : Sm K H Hc) (k : ∀ x H', r = .ok x → Sm K Hc H' → Res K (f x) H E G → Q x H') : Res K r Hc E Q := by
  cases r with
  | ok x => exact fun H' s' => k x H' rfl s' h
  | error p => exact Stk.same h s
theorem bind_assoc {α β γ : Type} (x : R α) (f : α → R β) (g : β → R γ) : (x.bind f).bind g = x.bind fun y => (f y).bind g := by cases x <;> rfl
theorem in13 (i : Nat) : inV (.int (0 + (i : Int))) [.int 1, .int 3] = decide (i = 1 ∨ i = 3) := by
  show ((1 : Int) == 0 + (i : Int) || ((3 : Int) == 0 + (i : Int) || false)) = _
  rw [Bool.eq_iff_iff, decide_eq_true_eq, Bool.or_eq_true, Bool.or_eq_true, beq_iff_eq, beq_iff_eq]
  constructor
  · rintro (z | z | z)
    · exact .inl (by omega)
    · exact .inr (by omega)
    · cases z
  · rintro (z | z)
    · exact .inl (by omega)
    · exact .inr (.inl (by omega))
theorem nv_len (l : List Nat) : (nv l).length = l.length := List.length_map _
theorem ok_read_marks (T : Txt K mg) (tb : TB K mg base) : FnOk P w K mg base (L2N.CX P w) 8 (ga K "read_marks") (fd K "read_marks") ["checklist", "data", "start"] ((spWr rMarks) K) := by
  refine okN T.d_read_marks.fn sc_read_marks (fun vs H Q E h => by obtain ⟨_, _, _, _, _, _, rfl, _⟩ := h; rfl) fun cdv A outer s H vs Q E hcd hr h => ?_
  refine ⟨_, (pss_cons (ps_set (i := 3) sc_read_marks.nd rfl (Or.inl rfl) (pv 2)) (pss_cons (ps_set (i := 4) sc_read_marks.nd rfl (Or.inl rfl) (pe_lst pa_nil)) (pss_cons (ps_for PassesOwn.leaving rfl (pi_range1 rfl T.n_range (pa_cons pe_int pa_nil)) (pg_name (i := 5) sc_read_marks.nd rfl (Or.inl rfl)) (pss_cons (ps_set (i := 3) sc_read_marks.nd rfl (Or.inl rfl) (pe_call (ok_read_word T) (hr.mono (by decide)) rfl T.d_read_word.g T.d_read_word.k T.d_read_word.b .nil (L2N.passes_call tkN fun _ _ _ _ z => z) (pa_cons (pv 1) (pa_cons (pv 3) (pa_cons pe_str pa_nil))))) (pss_cons (ps_set (i := 6) sc_read_marks.nd rfl (Or.inl rfl) (pe_ifExp (pt_cmpR op_in_seq (pv 5) (pe_tup (pa_cons pe_int (pa_cons pe_int pa_nil))) (by rfl)) (pe_disp (pps_cons (pe_ix ix_list (pv 4) (pe_op op_sub (pv 5) pe_int) (fun _ _ => rfl)) pe_bl pps_nil) (by rfl) (by rfl) (fun z => by cases z) (by decide)) pe_dnewK)) (pss_cons (ps_asg (pe_call (ok_read_mark T tb) (hr.mono (by decide)) rfl T.d_read_mark.g T.d_read_mark.k T.d_read_mark.b .nil (L2N.passes_call tkN fun _ _ _ _ z => z) (pa_cons (pv 1) (pa_cons (pv 3) (pa_cons (pv 6) pa_nil)))) (pg_tup rfl (pgs_cons (pg_name (i := 7) sc_read_marks.nd rfl (Or.inl rfl)) (pgs_cons (pg_name (i := 3) sc_read_marks.nd rfl (Or.inl rfl)) pgs_nil)))) (pss_one (ps_expr (pe_bm PySem.F.plainAttrs_list PySem.F.slot_list_append PySem.F.type_list_append mt_append (pv 4) (pa_cons (pv 7) pa_nil)))))))) (pss_cons (ps_set (i := 3) sc_read_marks.nd rfl (Or.inl rfl) (pe_call (ok_read_word T) (hr.mono (by decide)) rfl T.d_read_word.g T.d_read_word.k T.d_read_word.b .nil (L2N.passes_call tkN fun _ _ _ _ z => z) (pa_cons (pv 1) (pa_cons (pv 3) (pa_cons pe_str pa_nil))))) (pss_cons (ps_fld (pv 0) (pe_tup (pa_cons (pe_tup (pa_cons (pe_ix ix_list (pv 4) pe_int (fun _ _ => rfl)) (pa_cons (pe_ix ix_list (pv 4) pe_int (fun _ _ => rfl)) pa_nil))) (pa_cons (pe_tup (pa_cons (pe_ix ix_list (pv 4) pe_int (fun _ _ => rfl)) (pa_cons (pe_ix ix_list (pv 4) pe_int (fun _ _ => rfl)) pa_nil))) pa_nil))) rfl) (pss_one (ps_ret (pv 3)))))))), ?_⟩
  obtain ⟨a, pt, k, da, b, p, rfl, hC, hS, hB, hT, h⟩ := h
  obtain ⟨dx, mv, hself, hmv⟩ := hC.self
  refine ⟨_, rfl, by show 0 ≤ sizeLine; decide, fun ml hml => ?_⟩
  refine ⟨4, rfl, by decide, by decide, for_range (n := 4) (invMk K b a da p ml H E (fMarks k b) (Wr K a pt Q)) ⟨[], p, _, _, _, rfl, rfl, .new hml, upd_same, h⟩ ?_ ?_⟩
  · rintro i σ H1 hi ⟨ms, q, o1, o2, o3, hlen, rfl, hs, hM, h⟩
    rw [show 4 - i = (4 - (i + 1)) + 1 by omega, rmGo, bind_assoc] at h
    refine ⟨_, rfl, _, rfl, da, b, [32], q, by rw [tx_sp]; rfl, hs.l hS, h.stepA hs fun q1 H2 hq1 hs2 h => ?_⟩
    rw [bind_assoc] at h
    have hM2 := hs2.at hM
    have hs2 := hs.trans hs2
    dsimp only [gName]
    refine asg_use (P := fun v H' => ∃ d, v = .ref d ∧ Sm K H2 H' ∧ DK H' d (barM ms)) (fun Q' q' => ?_) ?_
    · refine ⟨_, rfl, by show 2 ≤ sizeLine; decide, fun t ht => ⟨t, _, rfl, .inr (SqT.of upd_same), rfl, rfl, _, rfl, ite2 (fun h1 => ?_) fun h1 => ?_⟩⟩
      · have h1 : inV (.int (0 + (i : Int))) [.int 1, .int 3] = true := h1
        rw [in13, decide_eq_true_eq, ← hlen] at h1
        refine fun d hd => ?_
        have hlt : ms.length - 1 < ms.length := by omega
        obtain ⟨c, hc⟩ := lt_some hlt
        have hat : atI (nv ms) (0 + (i : Int) - 1) = some (.int (c : Nat)) := by
          rw [show 0 + (i : Int) - 1 = ((ms.length - 1 : Nat) : Int) by omega]
          exact nv_at hc
        have hm3 : (upd (upd H2 t (.tup [.int 1, .int 3])) d (.dK [])) ml = some (.lst (nv ms)) := (Sm.new (K := K) hd).at ((Sm.new (K := K) ht).at hM2)
        refine ⟨_, rfl, _, rfl, _, _, rfl, rfl, ⟨_, _, _, _, rfl, rfl, SqL.of hm3, hat, upd_same, [(Sum.inl (c : Int), .bl true)], rfl, by show 1 ≤ 15; decide, q' _ _ ⟨d, rfl, ((Sm.new ht).trans (.new hd)).mut (((Sm.new (K := K) ht).f) d hd) upd_same trivial, ?_⟩⟩⟩
        rw [barM, if_pos h1, List.getLast?_eq_getElem?, hc]
        exact upd_same
      · have h1 : ¬ inV (.int (0 + (i : Int))) [.int 1, .int 3] = true := h1
        rw [in13, decide_eq_true_eq, ← hlen] at h1
        refine fun d hd => q' _ _ ⟨d, rfl, (Sm.new ht).trans (.new hd), ?_⟩
        rw [barM, if_neg h1]
        exact upd_same
    rintro v H3 ⟨d, rfl, hs3, hD⟩
    have hM3 := hs3.at hM2
    have hs3 := hs2.trans hs3
    refine ⟨_, rfl, _, rfl, _, rfl, da, b, q1, d, barM ms, rfl, hs3.l hS, hD, hs3.t hT, h.stepA hs3 fun x H4 hx hs4 h t ht => ?_⟩
    have hM4 := hs4.at hM3
    have hs4 := hs3.trans hs4
    refine ⟨t, _, rfl, SqT.of ht, rfl, _, _, rfl, _, _, rfl, rfl, ?_⟩
    refine ⟨_, rfl, .inl ⟨rfl, _, SqL.of hM4⟩, _, rfl, ml, _, _, rfl, rfl, hM4, by rw [nv_len, hlen]; exact Nat.lt_of_lt_of_le (show i < 100 by omega) (by decide), ?_⟩
    have e1 : nv ms ++ [V.int (x.1 : Nat)] = nv (ms ++ [x.1]) := by simp [nv]
    refine ⟨ms ++ [x.1], x.2, _, _, _, by simp [hlen], rfl, hs4.mut hml hM4 trivial, upd_same.trans (by rw [e1]), h⟩
  · rintro σ H1 ⟨ms, q, o1, o2, o3, hlen, rfl, hs, hM, h⟩
    rw [show 4 - 4 = 0 from rfl, rmGo] at h
    have h : Res K (fMarks k b (ms, q)) H E (Wr K a pt Q) := h
    unfold fMarks at h
    refine ⟨_, rfl, _, rfl, da, b, [10], q, by rw [tx_nl]; rfl, hs.l hS, h.stepA hs fun q1 H2 hq1 hs2 h => ?_⟩
    have hM2 := hs2.at hM
    have hs2 := hs.trans hs2
    obtain ⟨m0, m1, m2, m3, rfl⟩ : ∃ m0 m1 m2 m3, ms = [m0, m1, m2, m3] := by
      match ms, hlen with
      | [m0, m1, m2, m3], _ => exact ⟨m0, m1, m2, m3, rfl⟩
    have at_ : ∀ (H' : Hp) (j : Nat) (c : Nat), Sm K H2 H' → [m0, m1, m2, m3][j]? = some c → ∃ xs : List V, SqL K H' ml xs ∧ atI xs (j : Int) = some (.int (c : Nat)) := fun H' j c z y => ⟨_, SqL.of (z.at hM2), nv_at y⟩
    obtain ⟨_, l0, a0⟩ := at_ H2 0 m0 .refl rfl
    obtain ⟨_, l1, a1⟩ := at_ H2 1 m1 .refl rfl
    refine ⟨_, rfl, _, _, _, _, rfl, rfl, l0, a0, _, rfl, _, _, _, _, rfl, rfl, l1, a1, by show 2 ≤ sizeLine; decide, fun t1 ht1 => ?_⟩
    have n1 : Sm K H2 (upd H2 t1 (.tup [.int (m0 : Nat), .int (m1 : Nat)])) := .new ht1
    obtain ⟨_, l2, a2⟩ := at_ _ 2 m2 n1 rfl
    obtain ⟨_, l3, a3⟩ := at_ _ 3 m3 n1 rfl
    refine ⟨_, rfl, _, _, _, _, rfl, rfl, l2, a2, _, rfl, _, _, _, _, rfl, rfl, l3, a3, by show 2 ≤ sizeLine; decide, fun t2 ht2 => ⟨by show 2 ≤ sizeLine; decide, fun m hm => ?_⟩⟩
    have n2 := n1.trans (.new (o := .tup [.int (m2 : Nat), .int (m3 : Nat)]) ht2)
    have n3 := n2.trans (.new (o := .tup [.ref t1, .ref t2]) hm)
    have s3 := (hs2.trans n3).at hself
    refine ⟨_, rfl, a, _, dx, _, rfl, s3, T.c_CheckList.cl, T.na_CheckList_marks, by show 11 < 1000; decide, _, rfl, ?_⟩
    have h := h.okS (hs2.trans n3)
    refine h _ (Fr.mut s3 trivial (own_at (j := 0) rfl)) ((hC.sm (hs2.trans n3)).setSelf (k' := { k with marks := some ((m0, m1), (m2, m3)) }) (mv := .ref m) ⟨m, t1, t2, rfl, upd_same, ?_, ?_⟩ rfl)
    · exact (Sm.new (K := K) hm).at ((Sm.new (K := K) ht2).at upd_same)
    · exact (Sm.new (K := K) hm).at upd_same
end Tc
namespace Tc
open PySem PySem.Spec PyProof.Rows L2 Fh FhCheck LamX
variable {K : PySem.W.Frag} {mg : Str → Option Value} {base : Heap} {P : Program} {w : World}
/-- an object that is being written, and new ones -/
structure StO (x : Addr) (ox : HO) (S : List (Addr × HO)) (H : Hp) : Prop where
  hx : H x = some ox
  hs : ∀ e ∈ S, H e.1 = some e.2
  nd : (x :: S.map Prod.fst).Nodup
theorem StO.new {x d : Addr} {ox o : HO} {S : List (Addr × HO)} {H : Hp} (h : StO x ox S H) (hd : H d = none) : StO x ox ((d, o) :: S) (upd H d o) := by
  have k : ∀ {b u}, H b = some u → upd H d o b = some u := fun {b u} z => by
    rw [upd_ne (ne_of_none z hd)]
    exact z
  have nx : x ≠ d := ne_of_none h.hx hd
  have nS : d ∉ S.map Prod.fst := fun z => by
    obtain ⟨e, he, e2⟩ := List.mem_map.mp z
    exact ne_of_none (h.hs e he) hd e2
  refine ⟨k h.hx, fun e he => ?_, ?_⟩
  · rcases (List.mem_cons).mp he with rfl | he
    · exact upd_same
    · exact k (h.hs e he)
  · have n1 := List.nodup_cons.mp h.nd
    exact List.nodup_cons.mpr ⟨fun z => by rcases List.mem_cons.mp z with z | z; exact nx z; exact n1.1 z, List.nodup_cons.mpr ⟨nS, n1.2⟩⟩
theorem StO.wr {x : Addr} {ox ox' : HO} {S : List (Addr × HO)} {H : Hp} (h : StO x ox S H) : StO x ox' S (upd H x ox') := by
  refine ⟨upd_same, fun e he => ?_, h.nd⟩
  rw [upd_ne fun z => (List.nodup_cons.mp h.nd).1 (List.mem_map.mpr ⟨e, he, z⟩)]
  exact h.hs e he
structure InO (K : PySem.W.Frag) (x C dx : Addr) (H0 : Hp) (fs : List (Str × V)) (S : List (Addr × HO)) (H : Hp) : Prop where
  st : StO x (.ins C dx fs) S H
  fr : Fr K [x] H0 H
  fresh : ∀ e ∈ S, H0 e.1 = none
section
variable {x C dx d : Addr} {H0 H : Hp} {fs : List (Str × V)} {S : List (Addr × HO)} {o : HO}
theorem InO.start (h : H x = some (.ins C dx [])) : InO K x C dx H [] [] H := ⟨⟨h, by simp, by simp⟩, .refl, by simp⟩
theorem InO.new (h : InO K x C dx H0 fs S H) (hd : H d = none) : InO K x C dx H0 fs ((d, o) :: S) (upd H d o) := ⟨h.st.new hd, h.fr.trans (.new hd), fun e he => by
  rcases (List.mem_cons).mp he with rfl | he
  · exact h.fr.f _ hd
  · exact h.fresh e he⟩
theorem InO.put (h : InO K x C dx H0 fs S H) (f : Str) (v : V) : InO K x C dx H0 (putF f v fs) S (upd H x (.ins C dx (putF f v fs))) := ⟨h.st.wr, h.fr.trans (Fr.mut h.st.hx trivial List.mem_cons_self), h.fresh⟩
end
def CL0 : CL := ⟨0, [], none, [], [], [], [], [], 0, 0, []⟩
def spInit (K : PySem.W.Frag) : Sp := fun vs H Q E => ∃ x dx : Addr, vs = [.ref x] ∧ H x = some (.ins (ga K "CheckList") dx []) ∧ ∀ H' pt, Fr K [x] H H' → CLs K H' x pt CL0 → (∀ b ∈ pt.own x, b ≠ x → H b = none) → Q .non H'
theorem ok_CheckList_init (T : Txt K mg) : FnOk P w K mg base CX0 1 (ma K "CheckList" "__init__") (fdA K (ma K "CheckList" "__init__")) ["self"] (spInit K) := by
  refine T.d_CheckList_init.fn.ok sc_CheckList_init (fun vs H Q E h => by obtain ⟨_, _, rfl, _⟩ := h; rfl) fun cdv A outer s H vs Q E hr h => ?_
  refine ⟨_, (pss_cons (ps_fld (pv 0) pe_int rfl) (pss_cons (ps_fld (pv 0) pe_dnewK rfl) (pss_cons (ps_fld (pv 0) pe_non rfl) (pss_cons (ps_fld (pv 0) pe_dnewK rfl) (pss_cons (ps_fld (pv 0) pe_dnewK rfl) (pss_cons (ps_fld (pv 0) (pe_lst pa_nil) rfl) (pss_cons (ps_fld (pv 0) pe_dnewK rfl) (pss_cons (ps_fld (pv 0) pe_dnewK rfl) (pss_cons (ps_fld (pv 0) pe_int rfl) (pss_cons (ps_fld (pv 0) pe_int rfl) (pss_one (ps_fld (pv 0) (pe_lst pa_nil) rfl)))))))))))), ?_⟩
  obtain ⟨x, dx, rfl, hx, q⟩ := h
  have i0 := InO.start (K := K) hx
  refine ⟨_, rfl, x, _, _, _, rfl, i0.st.hx, T.c_CheckList.cl, T.na_CheckList_lines, by show 0 < 1000; decide, ?_⟩
  have i1 := i0.put "lines" (.int 0)
  refine fun d2 h2 => ⟨_, rfl, x, _, _, _, rfl, (i1.new (o := .dK []) h2).st.hx, T.c_CheckList.cl, T.na_CheckList_asked, by show 1 < 1000; decide, ?_⟩
  have i2 := (i1.new (o := .dK []) h2).put "asked" (.ref d2)
  refine ⟨_, rfl, x, _, _, _, rfl, i2.st.hx, T.c_CheckList.cl, T.na_CheckList_marks, by show 2 < 1000; decide, ?_⟩
  have i3 := i2.put "marks" (.non)
  refine fun d4 h4 => ⟨_, rfl, x, _, _, _, rfl, (i3.new (o := .dK []) h4).st.hx, T.c_CheckList.cl, T.na_CheckList_not_after_blank, by show 3 < 1000; decide, ?_⟩
  have i4 := (i3.new (o := .dK []) h4).put "not_after_blank" (.ref d4)
  refine fun d5 h5 => ⟨_, rfl, x, _, _, _, rfl, (i4.new (o := .dK []) h5).st.hx, T.c_CheckList.cl, T.na_CheckList_after_blank, by show 4 < 1000; decide, ?_⟩
  have i5 := (i4.new (o := .dK []) h5).put "after_blank" (.ref d5)
  refine ⟨by show 0 ≤ sizeLine; decide, fun d6 h6 => ⟨_, rfl, x, _, _, _, rfl, (i5.new (o := .lst []) h6).st.hx, T.c_CheckList.cl, T.na_CheckList_endings, by show 5 < 1000; decide, ?_⟩⟩
  have i6 := (i5.new (o := .lst []) h6).put "endings" (.ref d6)
  refine fun d7 h7 => ⟨_, rfl, x, _, _, _, rfl, (i6.new (o := .dK []) h7).st.hx, T.c_CheckList.cl, T.na_CheckList_partners, by show 6 < 1000; decide, ?_⟩
  have i7 := (i6.new (o := .dK []) h7).put "partners" (.ref d7)
  refine fun d8 h8 => ⟨_, rfl, x, _, _, _, rfl, (i7.new (o := .dK []) h8).st.hx, T.c_CheckList.cl, T.na_CheckList_brackets, by show 7 < 1000; decide, ?_⟩
  have i8 := (i7.new (o := .dK []) h8).put "brackets" (.ref d8)
  refine ⟨_, rfl, x, _, _, _, rfl, i8.st.hx, T.c_CheckList.cl, T.na_CheckList_most, by show 8 < 1000; decide, ?_⟩
  have i9 := i8.put "most" (.int 0)
  refine ⟨_, rfl, x, _, _, _, rfl, i9.st.hx, T.c_CheckList.cl, T.na_CheckList_longer, by show 9 < 1000; decide, ?_⟩
  have i10 := i9.put "longer" (.int 0)
  refine ⟨by show 0 ≤ sizeLine; decide, fun d11 h11 => ⟨_, rfl, x, _, _, _, rfl, (i10.new (o := .lst []) h11).st.hx, T.c_CheckList.cl, T.na_CheckList_ranges, by show 10 < 1000; decide, ?_⟩⟩
  have i11 := (i10.new (o := .lst []) h11).put "ranges" (.ref d11)
  have fin := i11.st
  have mem : ∀ {e : Addr × HO}, e ∈ [(d11, HO.lst []), (d8, .dK []), (d7, .dK []), (d6, .lst []), (d5, .dK []), (d4, .dK []), (d2, .dK [])] → _ := fun {e} he => fin.hs e he
  have e0 : PL (upd _ x _) d6 [] := ⟨[], mem (e := (d6, .lst [])) (by simp), rfl, fun i y z => by simp at z⟩
  have e1 : PL (upd _ x _) d11 [] := ⟨[], mem (e := (d11, .lst [])) (by simp), rfl, fun i y z => by simp at z⟩
  refine q _ ⟨d2, d4, d5, d6, d7, d8, d11⟩ i11.fr ⟨⟨dx, .non, fin.hx, rfl⟩, mem (e := (d2, .dK [])) (by simp), mem (e := (d4, .dK [])) (by simp), mem (e := (d5, .dK [])) (by simp), e0, mem (e := (d7, .dK [])) (by simp), mem (e := (d8, .dK [])) (by simp), e1, ?_⟩ ?_
  · refine (List.Perm.nodup_iff ?_).mp fin.nd
    refine List.Perm.cons x ?_
    exact (List.reverse_perm [d2, d4, d5, d6, d7, d8, d11])
  · intro b hb hne
    have fr := i11.fresh
    simp only [Pt.own, List.mem_cons, List.not_mem_nil, or_false] at hb
    rcases hb with rfl | rfl | rfl | rfl | rfl | rfl | rfl | rfl
    · exact absurd rfl hne
    · exact fr (b, .dK []) (by simp)
    · exact fr (b, .dK []) (by simp)
    · exact fr (b, .dK []) (by simp)
    · exact fr (b, .lst []) (by simp)
    · exact fr (b, .dK []) (by simp)
    · exact fr (b, .dK []) (by simp)
    · exact fr (b, .lst []) (by simp)
end Tc
namespace Tc
open PySem PySem.Spec PyProof.Rows L2 Fh FhCheck LamX
variable {K : PySem.W.Frag} {mg : Str → Option Value} {base : Heap} {P : Program} {w : World}
/-- read_sort -/
def rRest (k : CL) (i : Nat) (b : Bytes) (p : Nat) : R (CL × Nat) :=
  if i = 3 then rMarks k b p
  else if i = 5 then (rSpacing b p k.nob []).bind fun x => .ok ({ k with nob := addN k.nob x.1 }, x.2)
  else if i = 6 then (rSpacing b p k.aft k.nob).bind fun x => .ok ({ k with aft := addN k.aft x.1 }, x.2)
  else if i = 7 then rEnding k b p
  else if i = 8 then rPair k b p
  else if i = 10 then (rLimit b p 4096).bind fun x => .ok ({ k with most := x.1 }, x.2)
  else if i = 11 then (rLimit b p 100000).bind fun x => .ok ({ k with longer := x.1 }, x.2)
  else if i = 12 then rRange k b p
  else (rWord b p [10]).bind fun q => .ok ({ k with asked := addN k.asked i }, q)
def rSort (k : CL) (i : Nat) (b : Bytes) (p : Nat) : R (CL × Nat) := (rWord b p (wd i)).bind fun q => rRest k i b q
theorem wd_inj : ∀ i, i < 13 → ∀ j, j < 13 → decide ((Sum.inr (tx (wd i)) : Key) = Sum.inr (tx (wd j))) = decide (i = j) := by decide +kernel
theorem ask_put {l : List Nat} {i : Nat} (hl : ∀ j ∈ l, j < 13) (hi : i < 13) : putK (askD l) (Sum.inr (tx (wd i))) (.bl true) = askD (addN l i) := by
  have e : ((askD l).any fun kv => decide (kv.1 = (Sum.inr (tx (wd i)) : Key))) = l.contains i := by
    rw [askD, List.any_map, Bool.eq_iff_iff, List.any_eq_true]
    simp only [Function.comp]
    constructor
    · rintro ⟨j, hj, h⟩
      rw [wd_inj j (hl j hj) i hi, decide_eq_true_eq] at h
      subst h
      simpa using hj
    · intro h
      refine ⟨i, by simpa using h, ?_⟩
      rw [wd_inj i hi i hi]
      simp
  unfold putK addN
  rw [e]
  by_cases h : l.contains i = true
  · rw [if_pos h, if_pos h, askD, List.map_map]
    refine List.map_congr_left fun x _ => ?_; show (if (Sum.inr (tx (wd x)) : Key) = Sum.inr (tx (wd i)) then ((Sum.inr (tx (wd x)) : Key), V.bl true) else (Sum.inr (tx (wd x)), V.bl true)) = _
    split <;> rfl
  · rw [if_neg h, if_neg h]
    simp [askD]
def spSort (K : PySem.W.Frag) : Sp := fun vs H Q E => ∃ (a : Addr) (pt : Pt) (k : CL) (i : Nat) (da : Addr) (b : Bytes) (p : Nat), vs = [.ref a, wdS i, .ref da, .int p] ∧ i < 13 ∧ CLs K H a pt k ∧ SqL K H da (bv b) ∧ Bd k ∧ Tabs (Tb K) H ∧ Res K (rSort k i b p) H E (Wr K a pt Q)
theorem ok_read_sort (T : Txt K mg) (tb : TB K mg base) : FnOk P w K mg base (L2N.CX P w) 9 (ga K "read_sort") (fd K "read_sort") ["checklist", "word", "data", "start"] (spSort K) := by
  refine okN T.d_read_sort.fn sc_read_sort (fun vs H Q E h => by obtain ⟨_, _, _, _, _, _, _, rfl, _⟩ := h; rfl) fun cdv A outer s H vs Q E hcd hr h => ?_
  refine ⟨_, (pss_cons (ps_set (i := 4) sc_read_sort.nd rfl (Or.inl rfl) (pe_call (ok_read_word T) (hr.mono (by decide)) rfl T.d_read_word.g T.d_read_word.k T.d_read_word.b .nil (L2N.passes_call tkN fun _ _ _ _ z => z) (pa_cons (pv 2) (pa_cons (pv 3) (pa_cons (pv 1) pa_nil))))) (pss_cons (ps_if (pt_cmpR op_eq (pv 1) pe_str (nomark _)) (pss_one (ps_ret (pe_call (ok_read_marks T tb) (hr.mono (by decide)) rfl T.d_read_marks.g T.d_read_marks.k T.d_read_marks.b .nil (L2N.passes_call tkN fun _ _ _ _ z => z) (pa_cons (pv 0) (pa_cons (pv 2) (pa_cons (pv 4) pa_nil)))))) pss_nil) (pss_cons (ps_if (pt_cmpR op_eq (pv 1) pe_str (nomark _)) (pss_one (ps_ret (pe_call (ok_read_spacing T tb) (hr.mono (by decide)) rfl T.d_read_spacing.g T.d_read_spacing.k T.d_read_spacing.b .nil (L2N.passes_call tkN fun _ _ _ _ z => z) (pa_cons (pe_fld (pv 0) rfl) (pa_cons pe_dnewK (pa_cons (pv 2) (pa_cons (pv 4) pa_nil))))))) pss_nil) (pss_cons (ps_if (pt_cmpR op_eq (pv 1) pe_str (nomark _)) (pss_one (ps_ret (pe_call (ok_read_spacing T tb) (hr.mono (by decide)) rfl T.d_read_spacing.g T.d_read_spacing.k T.d_read_spacing.b .nil (L2N.passes_call tkN fun _ _ _ _ z => z) (pa_cons (pe_fld (pv 0) rfl) (pa_cons (pe_fld (pv 0) rfl) (pa_cons (pv 2) (pa_cons (pv 4) pa_nil))))))) pss_nil) (pss_cons (ps_if (pt_cmpR op_eq (pv 1) pe_str (nomark _)) (pss_one (ps_ret (pe_call (ok_read_ending T tb) (hr.mono (by decide)) rfl T.d_read_ending.g T.d_read_ending.k T.d_read_ending.b .nil (L2N.passes_call tkN fun _ _ _ _ z => z) (pa_cons (pv 0) (pa_cons (pv 2) (pa_cons (pv 4) pa_nil)))))) pss_nil) (pss_cons (ps_if (pt_cmpR op_eq (pv 1) pe_str (nomark _)) (pss_one (ps_ret (pe_call (ok_read_pair T tb) (hr.mono (by decide)) rfl T.d_read_pair.g T.d_read_pair.k T.d_read_pair.b .nil (L2N.passes_call tkN fun _ _ _ _ z => z) (pa_cons (pv 0) (pa_cons (pv 2) (pa_cons (pv 4) pa_nil)))))) pss_nil) (pss_cons (ps_if (pt_cmpR op_eq (pv 1) pe_str (nomark _)) (pss_cons (ps_asg (pe_call (ok_read_limit T) (hr.mono (by decide)) rfl T.d_read_limit.g T.d_read_limit.k T.d_read_limit.b .nil (L2N.passes_call tkN fun _ _ _ _ z => z) (pa_cons (pv 2) (pa_cons (pv 4) (pa_cons (pe_gi rfl T.i_LARGEST_MOST) pa_nil)))) (pg_tup rfl (pgs_cons (pg_name (i := 5) sc_read_sort.nd rfl (Or.inl rfl)) (pgs_cons (pg_name (i := 4) sc_read_sort.nd rfl (Or.inl rfl)) pgs_nil)))) (pss_cons (ps_fld (pv 0) (pv 5) rfl) (pss_one (ps_ret (pv 4))))) pss_nil) (pss_cons (ps_if (pt_cmpR op_eq (pv 1) pe_str (nomark _)) (pss_cons (ps_asg (pe_call (ok_read_limit T) (hr.mono (by decide)) rfl T.d_read_limit.g T.d_read_limit.k T.d_read_limit.b .nil (L2N.passes_call tkN fun _ _ _ _ z => z) (pa_cons (pv 2) (pa_cons (pv 4) (pa_cons (pe_gi rfl T.i_LARGEST_LONGER) pa_nil)))) (pg_tup rfl (pgs_cons (pg_name (i := 5) sc_read_sort.nd rfl (Or.inl rfl)) (pgs_cons (pg_name (i := 4) sc_read_sort.nd rfl (Or.inl rfl)) pgs_nil)))) (pss_cons (ps_fld (pv 0) (pv 5) rfl) (pss_one (ps_ret (pv 4))))) pss_nil) (pss_cons (ps_if (pt_cmpR op_eq (pv 1) pe_str (nomark _)) (pss_one (ps_ret (pe_call (ok_read_range T) (hr.mono (by decide)) rfl T.d_read_range.g T.d_read_range.k T.d_read_range.b .nil (L2N.passes_call tkN fun _ _ _ _ z => z) (pa_cons (pv 0) (pa_cons (pv 2) (pa_cons (pv 4) pa_nil)))))) pss_nil) (pss_cons (ps_set (i := 4) sc_read_sort.nd rfl (Or.inl rfl) (pe_call (ok_read_word T) (hr.mono (by decide)) rfl T.d_read_word.g T.d_read_word.k T.d_read_word.b .nil (L2N.passes_call tkN fun _ _ _ _ z => z) (pa_cons (pv 2) (pa_cons (pv 4) (pa_cons pe_str pa_nil))))) (pss_cons (ps_dput (hu_of hr) (pe_fld (pv 0) rfl) (pv 1) pe_bl rfl) (pss_one (ps_ret (pv 4)))))))))))))), ?_⟩
  obtain ⟨a, pt, k, i, da, b, p, rfl, hi, hC, hS, hB, hT, h⟩ := h
  refine ⟨_, rfl, _, rfl, _, rfl, da, b, wd i, p, rfl, hS, h.step fun q H1 hq hs h => ?_⟩
  have hC := hC.sm hs
  have hS := hs.l hS
  have hT := hs.t hT
  obtain ⟨dx, mv, hself, hmv⟩ := hC.self
  have hsz := hB.sz
  unfold CL.sz at hsz
  unfold rRest at h
  refine ⟨_, rfl, rfl, _, rfl, ite2 (fun h1 => ?_) fun h1 => ?_⟩
  · rw [wq3 i hi, decide_eq_true_eq] at h1
    subst h1
    exact ⟨_, rfl, _, rfl, _, rfl, a, pt, k, da, b, q, rfl, hC, hS, hB, hT, h⟩
  rw [wq3 i hi, decide_eq_true_eq] at h1
  rw [if_neg h1] at h
  refine ⟨_, rfl, rfl, _, rfl, ite2 (fun h2 => ?_) fun h2 => ?_⟩
  · rw [wq5 i hi, decide_eq_true_eq] at h2
    rw [if_pos h2] at h
    refine ⟨_, rfl, _, _, _, _, _, rfl, hself, T.c_CheckList.cl, T.na_CheckList_not_after_blank, clF_nob, fun d hd => ?_⟩
    have n := Sm.new (K := K) (o := .dK []) hd
    have c2 := hC.sm n
    refine ⟨_, rfl, _, rfl, pt.nob, d, da, b, q, k.nob, [], rfl, c2.nob, upd_same, n.l hS, n.t hT, hB.nob, by omega, (h.same n).step fun x H2 hx hs2 h => ?_⟩
    have c3 := c2.sm hs2
    exact h.ok _ (Fr.mut c3.nob trivial (own_at (j := 2) rfl)) (c3.set_nob c3.nob (fun _ z => by cases z) upd_same)
  rw [wq5 i hi, decide_eq_true_eq] at h2
  rw [if_neg h2] at h
  refine ⟨_, rfl, rfl, _, rfl, ite2 (fun h3 => ?_) fun h3 => ?_⟩
  · rw [wq6 i hi, decide_eq_true_eq] at h3
    rw [if_pos h3] at h
    refine ⟨_, rfl, _, _, _, _, _, rfl, hself, T.c_CheckList.cl, T.na_CheckList_after_blank, clF_aft, _, rfl, _, _, _, _, _, rfl, hself, T.c_CheckList.cl, T.na_CheckList_not_after_blank, clF_nob, ?_⟩
    refine ⟨_, rfl, _, rfl, pt.aft, pt.nob, da, b, q, k.aft, k.nob, rfl, hC.aft, hC.nob, hS, hT, hB.aft, by omega, h.step fun x H2 hx hs2 h => ?_⟩
    have c3 := hC.sm hs2
    exact h.ok _ (Fr.mut c3.aft trivial (own_at (j := 3) rfl)) (c3.set_aft c3.aft (fun _ z => by cases z) upd_same)
  rw [wq6 i hi, decide_eq_true_eq] at h3
  rw [if_neg h3] at h
  refine ⟨_, rfl, rfl, _, rfl, ite2 (fun h4 => ?_) fun h4 => ?_⟩
  · rw [wq7 i hi, decide_eq_true_eq] at h4
    rw [if_pos h4] at h
    exact ⟨_, rfl, _, rfl, _, rfl, a, pt, k, da, b, q, rfl, hC, hS, hB, hT, h⟩
  rw [wq7 i hi, decide_eq_true_eq] at h4
  rw [if_neg h4] at h
  refine ⟨_, rfl, rfl, _, rfl, ite2 (fun h5 => ?_) fun h5 => ?_⟩
  · rw [wq8 i hi, decide_eq_true_eq] at h5
    rw [if_pos h5] at h
    exact ⟨_, rfl, _, rfl, _, rfl, a, pt, k, da, b, q, rfl, hC, hS, hB, hT, h⟩
  rw [wq8 i hi, decide_eq_true_eq] at h5
  rw [if_neg h5] at h
  refine ⟨_, rfl, rfl, _, rfl, ite2 (fun h6 => ?_) fun h6 => ?_⟩
  · rw [wq10 i hi, decide_eq_true_eq] at h6
    rw [if_pos h6] at h
    refine ⟨_, rfl, _, rfl, da, b, q, 4096, rfl, hS, by decide, h.step fun x H2 hx hs2 h t ht => ?_⟩
    refine ⟨t, _, rfl, SqT.of ht, rfl, _, _, rfl, _, _, rfl, rfl, ?_⟩
    have s2 := hs2.at hself
    refine ⟨_, rfl, _, rfl, a, _, dx, _, rfl, s2, T.c_CheckList.cl, T.na_CheckList_most, by show 11 < 1000; decide, _, rfl, ?_⟩
    exact h.ok _ (Fr.mut s2 trivial (own_at (j := 0) rfl)) ((hC.sm hs2).setSelf (k' := { k with most := x.1 }) (mv := mv) (hmv.keep fun t xs z => hs2.at z) rfl)
  rw [wq10 i hi, decide_eq_true_eq] at h6
  rw [if_neg h6] at h
  refine ⟨_, rfl, rfl, _, rfl, ite2 (fun h7 => ?_) fun h7 => ?_⟩
  · rw [wq11 i hi, decide_eq_true_eq] at h7
    rw [if_pos h7] at h
    refine ⟨_, rfl, _, rfl, da, b, q, 100000, rfl, hS, by decide, h.step fun x H2 hx hs2 h t ht => ?_⟩
    refine ⟨t, _, rfl, SqT.of ht, rfl, _, _, rfl, _, _, rfl, rfl, ?_⟩
    have s2 := hs2.at hself
    refine ⟨_, rfl, _, rfl, a, _, dx, _, rfl, s2, T.c_CheckList.cl, T.na_CheckList_longer, by show 11 < 1000; decide, _, rfl, ?_⟩
    exact h.ok _ (Fr.mut s2 trivial (own_at (j := 0) rfl)) ((hC.sm hs2).setSelf (k' := { k with longer := x.1 }) (mv := mv) (hmv.keep fun t xs z => hs2.at z) rfl)
  rw [wq11 i hi, decide_eq_true_eq] at h7
  rw [if_neg h7] at h
  refine ⟨_, rfl, rfl, _, rfl, ite2 (fun h8 => ?_) fun h8 => ?_⟩
  · rw [wq12 i hi, decide_eq_true_eq] at h8
    rw [if_pos h8] at h
    exact ⟨_, rfl, _, rfl, _, rfl, a, pt, k, da, b, q, rfl, hC, hS, hB, hT, h⟩
  rw [wq12 i hi, decide_eq_true_eq] at h8
  rw [if_neg h8] at h
  refine ⟨_, rfl, _, rfl, da, b, [10], q, by rw [tx_nl]; rfl, hS, h.step fun q2 H2 hq2 hs2 h => ?_⟩
  have c2 := hC.sm hs2
  refine ⟨_, rfl, _, _, _, _, _, rfl, hs2.at hself, T.c_CheckList.cl, T.na_CheckList_asked, clF_asked, _, rfl, pt.asked, _, rfl, DPut.k (k := Sum.inr (tx (wd i))) c2.asked (by rw [askD, List.length_map]; exact Nat.lt_of_lt_of_le (show k.asked.length < 50000 by omega) (by decide)), _, rfl, ?_⟩
  rw [ask_put hB.asked hi]
  exact h.ok _ (Fr.mut c2.asked trivial (own_at (j := 1) rfl)) (c2.set_asked c2.asked (fun _ z => by cases z) upd_same)
end Tc
namespace Tc
open PySem PySem.Spec PyProof.Rows L2 Fh FhCheck LamX
variable {K : PySem.W.Frag} {mg : Str → Option Value} {base : Heap} {P : Program} {w : World}
/-- read_line: n more sorts from c on, o the first that need not be one told again -/
def rlGo (k : CL) (o : Nat) (b : Bytes) (p : Nat) : Nat → Nat → Nat → R (CL × Nat × Nat)
  | 0, _, far => .error far
  | n + 1, c, far => if (decide (o ≤ c) || mayRep k c) = true then (match rSort k c b p with
      | .ok x => .ok ({ x.1 with lines := x.1.lines + 1 }, c, x.2)
      | .error e => rlGo k o b p n (c + 1) (max far e)) else rlGo k o b p n (c + 1) far
def rLine (k : CL) (o : Nat) (b : Bytes) (p : Nat) : R (CL × Nat × Nat) := rlGo k o b p (13 - (o - 1)) (o - 1) p
def spLine (K : PySem.W.Frag) : Sp := fun vs H Q E => ∃ (a : Addr) (pt : Pt) (k : CL) (o : Nat) (da : Addr) (b : Bytes) (p : Nat), vs = [.ref a, .int ((o : Int) - 1), .ref da, .int p] ∧ o ≤ 13 ∧ (o = 8 → k.ends ≠ []) ∧ (o = 13 → k.ranges ≠ []) ∧ CLs K H a pt k ∧ SqL K H da (bv b) ∧ Bd k ∧ Tabs (Tb K) H ∧
  Res K (rLine k o b p) H E fun x H' => ∀ H'', Fr K (pt.own a) H' H'' → CLs K H'' a pt x.1 → ∀ t, H'' t = some (tup2 (x.2.1, x.2.2)) → Q (.ref t) H''
theorem words_eq : [V.str "empty", .str "same", .str "tags", .str "numbers", .str "blanks", .str "nobefore", .str "before", .str "end", .str "pair", .str "twice", .str "most", .str "longer", .str "not"] = (List.range 13).map wdS := by decide +kernel
theorem words_at {c : Nat} (h : c < 13) : atI ((List.range 13).map wdS) (c : Int) = some (wdS c) := atI_nat (by rw [List.getElem?_map, List.getElem?_range h]; rfl)
theorem if_use {c : TT} {t1 t2 : TS} {D : Ends} {σ : L2.St} {H : Hp} {b : Bool} {P : Hp → Prop} (h : ∀ Q : Bool → Hp → Prop, (∀ H', P H' → Q b H') → c σ H Q) (q : ∀ H', P H' → (if b = true then t1 D σ H' else t2 D σ H')) : tIfS c t1 t2 D σ H := h _ q
theorem ok_read_line (T : Txt K mg) (tb : TB K mg base) : FnOk P w K mg base (L2N.CX P w) 10 (ga K "read_line") (fd K "read_line") ["checklist", "rank", "data", "start"] (spLine K) := by
  refine okN T.d_read_line.fn sc_read_line (fun vs H Q E h => by obtain ⟨_, _, _, _, _, _, _, rfl, _⟩ := h; rfl) fun cdv A outer s H vs Q E hcd hr h => ?_
  refine ⟨_, (pss_cons (ps_set (i := 4) sc_read_line.nd rfl (Or.inl rfl) (pv 3)) (pss_cons (ps_for PassesOwn.leaving rfl (pi_range2 rfl T.n_range (pa_cons (pe_callB (call_max2 rfl) (by rfl) T.n_max (by decide +kernel) (pa_cons (pv 1) (pa_cons pe_int pa_nil))) (pa_cons (pe_callB call_len (by rfl) T.n_len (by decide +kernel) (pa_cons (pe_glob (v := .ref (ga K "WORDS")) rfl T.g_WORDS rfl) pa_nil)) pa_nil))) (pg_name (i := 5) sc_read_line.nd rfl (Or.inl rfl)) (pss_one (ps_if (PW.pt (pw_or (pt_cmpR op_gt (pv 5) (pv 1) (nomark _)) (pw_or1 (pt_val (pe_call (ok_may_repeat T) (hr.mono (by decide)) rfl T.d_may_repeat.g T.d_may_repeat.k T.d_may_repeat.b .nil pass0 (pa_cons (pv 0) (pa_cons (pe_ix ix_tup (pe_glob (v := .ref (ga K "WORDS")) rfl T.g_WORDS rfl) (pv 5) (fun _ _ => rfl)) pa_nil))))))) (pss_one (Tl.ps_try_asE (i := 7) (tb := fun W => tAsg (tCallS (spSort K) (WE W) (tCons (tVar 0) (tCons (tOp (rIxT K) (tC (.ref (ga K "WORDS"))) (tVar 5)) (tCons (tVar 2) (tCons (tVar 3) tNil))))) (gName 6)) (ts := fun a cls d => tAsg (tCB (fun xs H Q => ∃ i j, xs = [V.int i, V.int j] ∧ Q (V.int (if j > i then j else i)) H) (tCons (tVar 4) (tCons (Tl.tXg K a cls d "place" (tVar 7)) tNil))) (gName 4)) (pss_cons (ps_fldaug (pv 0) pe_int in_add) (pss_one (ps_ret (pe_tup (pa_cons (pv 5) (pa_cons (pv 6) pa_nil)))))) rfl rfl sc_read_line.nd rfl rfl ⟨rfl, by decide, .inl T.stuck.gC⟩ tkN (fun W pn xe tk _ => by exact (pss_one (ps_set (i := 6) sc_read_line.nd rfl (Or.inl rfl) (pe_callS (ok_read_sort T tb) (hr.mono (by decide)) rfl T.d_read_sort.g T.d_read_sort.k T.d_read_sort.b (fun σ => L2N.passAt tk σ) (pa_cons (pv 0) (pa_cons (pe_ix ix_tup (pe_glob (v := .ref (ga K "WORDS")) rfl T.g_WORDS rfl) (pv 5) (fun _ _ => rfl)) (pa_cons (pv 2) (pa_cons (pv 3) pa_nil)))))))) (fun a oe cls dd pn hz hf => by exact (pss_one (ps_set (i := 4) sc_read_line.nd rfl (Or.inl rfl) (pe_callB (Tl.call_maxH (Tl.hot_of hz hf)) (by rfl) T.n_max (by decide +kernel) (by exact (pa_cons (pv 4) (pa_cons (Tl.pe_field List.mem_cons_self hz.zc hf (pv 7)) pa_nil))))))))) pss_nil))) (pss_one (L2N.ps_raise rfl tkN (pmk_stuck T.xb T.stuck T.stuckI (by exact Nat.lt_of_le_of_lt (Nat.add_le_add_left (by decide : 10 ≤ 3 * 9 + 5) _) hr.dp) (by exact (pa_cons (pv 4) pa_nil))).pmk)))), ?_⟩
  obtain ⟨a, pt, k, o, da, b, p, rfl, ho, h7, h12, hC, hS, hB, hT, h⟩ := h
  have hW : ∀ H', SqT K H' (ga K "WORDS") ((List.range 13).map wdS) := fun H' => words_eq ▸ T.t_WORDS H'
  refine ⟨_, rfl, ?_⟩
  refine ⟨_, rfl, _, _, rfl, _, _, rfl, len_t (hW _), _, _, rfl, ⟨?_, ?_, by decide, by decide⟩, ?_⟩
  · show -(2 ^ 62) ≤ (if (0 : Int) > (o : Int) - 1 then (0 : Int) else (o : Int) - 1)
    split <;> omega
  · show (if (0 : Int) > (o : Int) - 1 then (0 : Int) else (o : Int) - 1) < 2 ^ 62
    split <;> omega
  have e1 : (if (0 : Int) > (o : Int) - 1 then (0 : Int) else (o : Int) - 1) = ((o - 1 : Nat) : Int) := by split <;> omega
  show ∃ W, _
  rw [e1]
  refine for_range (lo := ((o - 1 : Nat) : Int)) (n := ((((List.range 13).map wdS).length : Nat) - ((o - 1 : Nat) : Int)).toNat) (fun i σ H' => ∃ (far : Nat) (o1 o2 o3 : Option V), σ = [some (.ref a), some (.int ((o : Int) - 1)), some (.ref da), some (.int p), some (.int (far : Nat)), o1, o2, o3] ∧ Sm K H H' ∧
    Res K (rlGo k o b p (13 - (o - 1 + i)) (o - 1 + i) far) H' E fun x H' => ∀ H'', Fr K (pt.own a) H' H'' → CLs K H'' a pt x.1 → ∀ t, H'' t = some (tup2 (x.2.1, x.2.2)) → Q (.ref t) H'') ⟨p, _, _, _, rfl, .refl, h⟩ ?_ ?_
  · rintro i σ H1 hi ⟨far, o1, o2, o3, rfl, hs, h⟩
    rw [List.length_map, List.length_range] at hi
    have hc : o - 1 + i < 13 := by omega
    have ec : ((o - 1 : Nat) : Int) + (i : Int) = ((o - 1 + i : Nat) : Int) := by omega
    rw [ec, show 13 - (o - 1 + i) = (13 - (o - 1 + (i + 1))) + 1 by omega] at *
    generalize hcc : o - 1 + i = c at *
    have hC1 := hC.sm hs
    dsimp only [gName]
    refine if_use (b := decide (o ≤ c) || mayRep k c) (P := Sm K H1) (fun Q' q' => ?_) fun H2 hs2 => ?_
    · refine ⟨_, rfl, _, rfl, _, _, rfl, rfl, _, rfl, ite2 (fun h1 => ?_) fun h1 => ?_⟩
      · have h1 : o ≤ c := by
          simp at h1
          omega
        rw [decide_eq_true h1] at q'
        exact q' _ .refl
      · have h1 : ¬ o ≤ c := by
          simp at h1
          omega
        rw [decide_eq_false h1] at q'
        exact ⟨_, rfl, _, rfl, _, _, _, _, rfl, rfl, hW _, words_at hc, a, pt, k, c, rfl, hc, hC1, fun z => h7 (by omega), fun z => h12 (by omega), fun y hy => Nat.lt_trans (hB.nob y hy) (by decide), fun y hy => Nat.lt_trans (hB.aft y hy) (by decide),
          fun y hy => Nat.lt_trans (hB.pairs y hy) (by decide), fun H' hs' => ⟨_, rfl, q' H' hs'⟩⟩
    have h := h.same hs2
    have hs2 := hs.trans hs2
    have hC2 := hC.sm hs2
    rw [rlGo, show c + 1 = o - 1 + (i + 1) by omega] at h
    cases hb : (decide (o ≤ c) || mayRep k c) with
    | true =>
      rw [hb, if_pos rfl] at h
      refine iteT ?_
      refine ⟨_, rfl, _, rfl, _, _, _, _, rfl, rfl, hW _, words_at hc, _, rfl, _, rfl, a, pt, k, c, da, b, p, rfl, hc, hC2, hs2.l hS, hB, hs2.t hT, ?_⟩
      cases hr2 : rSort k c b p with
      | ok x =>
        rw [hr2] at h
        intro H3 hs3 H4 fr4 cl4
        obtain ⟨dx, mv, s4, m4⟩ := id cl4.self
        refine ⟨_, rfl, a, _, dx, _, _, rfl, s4, T.c_CheckList.cl, T.na_CheckList_lines, clF_lines, _, _, rfl, rfl, dx, _, s4, by show 11 < 1000; decide, ?_⟩
        have cl5 := cl4.setSelf (dx := dx) (k' := { x.1 with lines := x.1.lines + 1 }) (mv := mv) m4 rfl
        have fr5 := fr4.trans (Fr.mut (o := .ins (ga K "CheckList") dx (clF pt { x.1 with lines := x.1.lines + 1 } mv)) s4 trivial (own_at (j := 0) rfl))
        refine ⟨_, rfl, _, rfl, by show 2 ≤ sizeLine; decide, fun t ht => ?_⟩
        exact h.okS hs3 _ (fr5.trans (.new ht)) (cl5.sm (.new ht)) t upd_same
      | error e =>
        rw [hr2] at h
        intro H3 d hs3 hd3
        refine ⟨true, T.xm_Stuck_Stuck, fun _ a2 ha2 => ?_, fun q => nomatch q⟩
        refine ⟨_, rfl, _, rfl, rfl, _, rfl, T.fld_Stuck, d, _, _, rfl, hd3, rfl, _, _, rfl, ?_⟩
        refine ⟨max far e, some (.int (c : Nat)), o2, none, ?_, hs2.trans hs3, h.same hs3⟩
        show [_, _, _, _, some (V.int (if (e : Int) > (far : Int) then (e : Int) else (far : Int))), _, _, _] = _
        rw [show (if (e : Int) > (far : Int) then (e : Int) else (far : Int)) = ((max far e : Nat) : Int) by split <;> omega]
    | false =>
      rw [hb, if_neg Bool.false_ne_true] at h
      refine iteF ?_
      exact ⟨far, _, _, _, rfl, hs2, h⟩
  · rintro σ H1 ⟨far, o1, o2, o3, rfl, hs, h⟩
    rw [List.length_map, List.length_range, show 13 - (o - 1 + ((13 : Nat) - ((o - 1 : Nat) : Int)).toNat) = 0 by omega, rlGo] at h
    exact ⟨_, rfl, _, rfl, fun d hd => h.err.at hd⟩
end Tc
namespace Tc
open PySem PySem.Spec PyProof.Rows L2 Fh FhCheck LamX
variable {K : PySem.W.Frag} {mg : Str → Option Value} {base : Heap} {P : Program} {w : World}
/-! ### plain: what readers that end well tell -/
theorem bind_ok {α β : Type} {x : R α} {f : α → R β} {y : β} (h : x.bind f = .ok y) : ∃ z, x = .ok z ∧ f z = .ok y := by
  cases x with
  | ok z => exact ⟨z, rfl, h⟩
  | error e => cases h
theorem rWord_ok {b w : Bytes} {p q : Nat} (h : rWord b p w = .ok q) : q = p + w.length := by
  unfold rWord at h
  split at h
  · cases h
    rfl
  · cases h
theorem offR_ok {α : Type} {p : Nat} {x : R (α × Nat)} {y : α × Nat} (h : offR p x = .ok y) : ∃ z, x = .ok z ∧ y = (z.1, p + z.2) := by
  cases x with
  | ok z =>
    cases h
    exact ⟨z, rfl, rfl⟩
  | error e => cases h
theorem rcGo_ok {W : Nat → Nat → Bool} {least B : Nat} : ∀ {n low k : Nat} {r : Bytes} {x : Nat × Nat}, low + 64 ^ n ≤ B → rcGo W least n low k r = .ok x → x.1 + 1 ≤ B ∧ k < x.2
  | 0, low, k, r, x, hB, h => by
    cases hw : W (max low least) (low + (64 ^ 0 - 1)) with
    | true =>
      rw [rcGo_0 hw] at h
      cases h
      exact ⟨hB, Nat.lt_succ_self _⟩
    | false =>
      rw [rcGo_no hw] at h
      cases h
  | n + 1, low, k, r, x, hB, h => by
    cases hw : W (max low least) (low + (64 ^ (n + 1) - 1)) with
    | true =>
      cases r with
      | nil =>
        rw [rcGo_nil hw] at h
        cases h
      | cons c r =>
        by_cases hc : c.toNat / 64 = 2
        · rw [rcGo_on hw hc] at h
          have e64 : 64 ^ (n + 1) = 64 ^ n * 64 := Nat.pow_succ ..
          have hm : c.toNat % 64 * 64 ^ n ≤ 63 * 64 ^ n := Nat.mul_le_mul_right _ (by omega)
          have := rcGo_ok (n := n) (B := B) (by omega) h
          exact ⟨this.1, by omega⟩
        · rw [rcGo_bad hw hc] at h
          cases h
    | false =>
      rw [rcGo_no hw] at h
      cases h
theorem rChar_ok {W : Nat → Nat → Bool} {b : Bytes} {p : Nat} {x : Nat × Nat} (h : rChar W b p = .ok x) : x.1 < 2 ^ 22 ∧ p < x.2 := by
  unfold rChar at h
  split at h
  · cases h
  · obtain ⟨y, hy, h⟩ := bind_ok h
    obtain ⟨z, hz, rfl⟩ := offR_ok h
    have l := (lead_ok hy).2.2.1
    have := rcGo_ok l hz
    exact ⟨by dsimp only; omega, by dsimp only; omega⟩
theorem rSign_ok {b : Bytes} {p least : Nat} {ks : List Nat} {x : Nat × Nat} (h : rSign b p least ks = .ok x) : x.1 < 2 ^ 22 ∧ p < x.2 := rChar_ok h
theorem begins_le {lo hi v : Nat} (h : begins lo hi v = true) : v ≤ hi := by
  by_cases v0 : v = 0
  · omega
  · rw [begins_pos v0, List.any_eq_true] at h
    obtain ⟨k, _, h⟩ := h
    simp only [Bool.and_eq_true, decide_eq_true_eq] at h; have : v ≤ v * 10 ^ k := Nat.le_mul_of_pos_right v (Nat.pow_pos (by decide))
    omega
theorem rnGo_ok {lo hi : Nat} : ∀ {r : Bytes} {k v : Nat} {x : Nat × Nat}, v ≤ hi → rnGo lo hi r k v = .ok x → x.1 ≤ hi ∧ k ≤ x.2
  | [], k, v, x, hv, h => by
    unfold rnGo at h
    split at h
    · cases h
    · cases h
      exact ⟨hv, Nat.le_refl _⟩
  | c :: r, k, v, x, hv, h => by
    unfold rnGo at h
    split at h
    · split at h
      · cases h
      · rename_i hn
        have hb : begins lo hi (10 * v + (c.toNat - 48)) = true := by simpa using fun z => hn (.inr z)
        have := rnGo_ok (begins_le hb) h
        exact ⟨this.1, by omega⟩
    · split at h
      · cases h
      · cases h
        exact ⟨hv, Nat.le_refl _⟩
theorem rNum_ok {b : Bytes} {p lo hi : Nat} {x : Nat × Nat} (h : rNum b p lo hi = .ok x) : x.1 ≤ hi ∧ p ≤ x.2 := by
  obtain ⟨z, hz, rfl⟩ := offR_ok h
  have := rnGo_ok (Nat.zero_le _) hz
  exact ⟨this.1, by dsimp only; omega⟩
theorem mem_addN {l : List Nat} {c x : Nat} (h : x ∈ addN l c) : x ∈ l ∨ x = c := by
  unfold addN at h
  split at h
  · exact .inl h
  · simpa using h
theorem mem_putP {l : List (Nat × Nat)} {c d : Nat} {x : Nat × Nat} (h : x ∈ putP l c d) : (∃ y ∈ l, y.1 = x.1) ∨ x.1 = c := by
  unfold putP at h
  split at h
  · obtain ⟨y, hy, rfl⟩ := (List.mem_map).mp h
    by_cases z : y.1 = c
    · rw [if_pos z]
      exact .inr z
    · rw [if_neg z]
      exact .inl ⟨y, hy, rfl⟩
  · rcases (List.mem_append).mp h with h | h
    · exact .inl ⟨x, h, rfl⟩
    · simp at h
      exact .inr (by rw [h])
theorem len_putP (l : List (Nat × Nat)) (c d : Nat) : (putP l c d).length ≤ l.length + 1 := by
  unfold putP
  split
  · simp
  · simp
theorem rMark_ok {b : Bytes} {p : Nat} {ks : List Nat} {x : Nat × Nat} (h : rMark b p ks = .ok x) : p < x.2 := by
  unfold rMark at h
  split at h
  · obtain ⟨q, hq, h⟩ := bind_ok h
    cases h
    have := rWord_ok hq
    show p < q
    simp [none4] at this
    omega
  · exact (rSign_ok h).2
theorem rmGo_ok {b : Bytes} : ∀ {n : Nat} {ms : List Nat} {p : Nat} {x : List Nat × Nat}, rmGo b n ms p = .ok x → p ≤ x.2 ∧ x.1.length = ms.length + n
  | 0, ms, p, x, h => by
    cases h
    exact ⟨Nat.le_refl _, rfl⟩
  | n + 1, ms, p, x, h => by
    rw [rmGo] at h
    obtain ⟨q, hq, h⟩ := bind_ok h
    obtain ⟨y, hy, h⟩ := bind_ok h
    have h1 := rWord_ok hq
    have h2 := rMark_ok hy
    have h3 := rmGo_ok h
    simp at h1 h3
    exact ⟨by omega, by omega⟩
/-- what a line's reader leaves -/
structure Ok1 (k : CL) (i p : Nat) (x : CL × Nat) : Prop where
  lt : p < x.2
  e7 : i = 7 → x.1.ends ≠ []
  e12 : i = 12 → x.1.ranges ≠ []
  sz : x.1.sz ≤ k.sz + 3
  bd : x.1.sz < 50000 → Bd x.1
theorem rSort_ok {k : CL} {i : Nat} {b : Bytes} {p : Nat} {x : CL × Nat} (hi : i < 13) (hB : Bd k) (h : rSort k i b p = .ok x) : Ok1 k i p x := by
  obtain ⟨q, hq, h⟩ := bind_ok h
  have wl : ∀ j, j < 13 → 0 < (wd j).length := by decide
  have hq := rWord_ok hq
  have hpq : p < q := by
    have := wl i hi
    omega
  unfold rRest at h
  by_cases h1 : i = 3
  · rw [if_pos h1] at h
    obtain ⟨y, hy, h⟩ := bind_ok h
    obtain ⟨z, hz, h⟩ := bind_ok h
    have r1 := (rmGo_ok hy).1
    have r2 := rWord_ok hz
    cases h
    exact ⟨by dsimp only; omega, fun z => by omega, fun z => by omega, Nat.le_add_right _ _, fun _ => ⟨hB.asked, hB.nob, hB.aft, hB.ends, hB.pairs, hB.ranges, hB.sz⟩⟩
  rw [if_neg h1] at h
  by_cases h2 : i = 5
  · rw [if_pos h2] at h
    obtain ⟨y, hy, h⟩ := bind_ok h
    obtain ⟨q1, hq1, hy⟩ := bind_ok hy
    obtain ⟨s, hs, hy⟩ := bind_ok hy
    obtain ⟨q2, hq2, hy⟩ := bind_ok hy
    cases hy
    cases h
    have r1 := rWord_ok hq1
    have r2 := rSign_ok hs
    have r3 := rWord_ok hq2
    have l := len_addN k.nob s.1
    exact ⟨by dsimp only; omega, fun z => by omega, fun z => by omega, by unfold CL.sz; dsimp only; omega, fun z => ⟨hB.asked, fun c hc => (mem_addN hc).elim (hB.nob c) fun e => e ▸ r2.1, hB.aft, hB.ends, hB.pairs, hB.ranges, z⟩⟩
  rw [if_neg h2] at h
  by_cases h3 : i = 6
  · rw [if_pos h3] at h
    obtain ⟨y, hy, h⟩ := bind_ok h
    obtain ⟨q1, hq1, hy⟩ := bind_ok hy
    obtain ⟨s, hs, hy⟩ := bind_ok hy
    obtain ⟨q2, hq2, hy⟩ := bind_ok hy
    cases hy
    cases h
    have r1 := rWord_ok hq1
    have r2 := rSign_ok hs
    have r3 := rWord_ok hq2
    have l := len_addN k.aft s.1
    exact ⟨by dsimp only; omega, fun z => by omega, fun z => by omega, by unfold CL.sz; dsimp only; omega, fun z => ⟨hB.asked, hB.nob, fun c hc => (mem_addN hc).elim (hB.aft c) fun e => e ▸ r2.1, hB.ends, hB.pairs, hB.ranges, z⟩⟩
  rw [if_neg h3] at h
  by_cases h4 : i = 7
  · rw [if_pos h4] at h
    obtain ⟨q1, hq1, h⟩ := bind_ok h
    obtain ⟨s, hs, h⟩ := bind_ok h
    obtain ⟨q2, hq2, h⟩ := bind_ok h
    obtain ⟨u, hu, h⟩ := bind_ok h
    obtain ⟨q3, hq3, h⟩ := bind_ok h
    cases h
    have r1 := rWord_ok hq1
    have r2 := rSign_ok hs
    have r3 := rWord_ok hq2
    have r4 := rSign_ok hu
    have r5 := rWord_ok hq3
    refine ⟨by dsimp only; omega, fun z => by simp, fun z => by omega, by unfold CL.sz; dsimp only; simp only [List.length_append, List.length_singleton]; omega, fun z => ⟨hB.asked, hB.nob, hB.aft, fun y hy => ?_, hB.pairs, hB.ranges, z⟩⟩; rcases List.mem_append.mp hy with hy | hy
    · exact hB.ends y hy
    · simp at hy
      subst hy
      exact ⟨r2.1, r4.1⟩
  rw [if_neg h4] at h
  by_cases h5 : i = 8
  · rw [if_pos h5] at h
    obtain ⟨q1, hq1, h⟩ := bind_ok h
    obtain ⟨s, hs, h⟩ := bind_ok h
    obtain ⟨q2, hq2, h⟩ := bind_ok h
    obtain ⟨u, hu, h⟩ := bind_ok h
    obtain ⟨q3, hq3, h⟩ := bind_ok h
    cases h
    have r1 := rWord_ok hq1
    have r2 := rSign_ok hs
    have r3 := rWord_ok hq2
    have r4 := rSign_ok hu
    have r5 := rWord_ok hq3
    have l1 := len_putP k.pairs s.1 u.1
    have l2 := len_addN k.bra s.1
    have l3 := len_addN (addN k.bra s.1) u.1
    refine ⟨by dsimp only; omega, fun z => by omega, fun z => by omega, by unfold CL.sz; dsimp only; omega, fun z => ⟨hB.asked, hB.nob, hB.aft, hB.ends, fun y hy => ?_, hB.ranges, z⟩⟩
    rcases mem_putP hy with ⟨v, hv, e⟩ | e
    · rw [← e]
      exact hB.pairs v hv
    · rw [e]
      exact r2.1
  rw [if_neg h5] at h
  by_cases h6 : i = 10
  · rw [if_pos h6] at h
    obtain ⟨y, hy, h⟩ := bind_ok h
    obtain ⟨q1, hq1, hy⟩ := bind_ok hy
    obtain ⟨s, hs, hy⟩ := bind_ok hy
    obtain ⟨q2, hq2, hy⟩ := bind_ok hy
    cases hy
    cases h
    have r1 := rWord_ok hq1
    have r2 := rNum_ok hs
    have r3 := rWord_ok hq2
    exact ⟨by dsimp only; omega, fun z => by omega, fun z => by omega, Nat.le_add_right _ _, fun _ => ⟨hB.asked, hB.nob, hB.aft, hB.ends, hB.pairs, hB.ranges, hB.sz⟩⟩
  rw [if_neg h6] at h
  by_cases h7 : i = 11
  · rw [if_pos h7] at h
    obtain ⟨y, hy, h⟩ := bind_ok h
    obtain ⟨q1, hq1, hy⟩ := bind_ok hy
    obtain ⟨s, hs, hy⟩ := bind_ok hy
    obtain ⟨q2, hq2, hy⟩ := bind_ok hy
    cases hy
    cases h
    have r1 := rWord_ok hq1
    have r2 := rNum_ok hs
    have r3 := rWord_ok hq2
    exact ⟨by dsimp only; omega, fun z => by omega, fun z => by omega, Nat.le_add_right _ _, fun _ => ⟨hB.asked, hB.nob, hB.aft, hB.ends, hB.pairs, hB.ranges, hB.sz⟩⟩
  rw [if_neg h7] at h
  by_cases h8 : i = 12
  · rw [if_pos h8] at h
    obtain ⟨q1, hq1, h⟩ := bind_ok h
    obtain ⟨s, hs, h⟩ := bind_ok h
    obtain ⟨q2, hq2, h⟩ := bind_ok h
    obtain ⟨u, hu, h⟩ := bind_ok h
    obtain ⟨q3, hq3, h⟩ := bind_ok h
    cases h
    have r1 := rWord_ok hq1
    have r2 := rNum_ok hs
    have r3 := rWord_ok hq2
    have r4 := rNum_ok hu
    have r5 := rWord_ok hq3
    refine ⟨by dsimp only; omega, fun z => by omega, fun z => by simp, by unfold CL.sz; dsimp only; simp only [List.length_append, List.length_singleton]; omega, fun z => ⟨hB.asked, hB.nob, hB.aft, hB.ends, hB.pairs, fun y hy => ?_, z⟩⟩; rcases List.mem_append.mp hy with hy | hy
    · exact hB.ranges y hy
    · simp at hy
      subst hy
      show u.1 < _
      omega
  rw [if_neg h8] at h
  obtain ⟨q1, hq1, h⟩ := bind_ok h
  cases h
  have r1 := rWord_ok hq1
  have l := len_addN k.asked i
  exact ⟨by dsimp only; omega, fun z => by omega, fun z => by omega, by unfold CL.sz; dsimp only; omega, fun z => ⟨fun c hc => (mem_addN hc).elim (hB.asked c) fun e => e ▸ hi, hB.nob, hB.aft, hB.ends, hB.pairs, hB.ranges, z⟩⟩
theorem rlGo_ok {k : CL} {o : Nat} {b : Bytes} {p : Nat} (hB : Bd k) : ∀ {n c far : Nat} {x : CL × Nat × Nat}, c + n ≤ 13 → rlGo k o b p n c far = .ok x → x.2.1 < 13 ∧ Ok1 k x.2.1 p (x.1, x.2.2)
  | 0, c, far, x, _, h => by cases h
  | n + 1, c, far, x, hc, h => by
    rw [rlGo] at h
    split at h
    · split at h
      · rename_i y hy
        cases h
        have r := rSort_ok (by omega) hB hy
        exact ⟨by dsimp only; omega, r.lt, r.e7, r.e12, r.sz, fun z => have q := r.bd z; ⟨q.asked, q.nob, q.aft, q.ends, q.pairs, q.ranges, z⟩⟩
      · exact rlGo_ok hB (by omega) h
    · exact rlGo_ok hB (by omega) h
theorem rLine_ok {k : CL} {o : Nat} {b : Bytes} {p : Nat} {x : CL × Nat × Nat} (hB : Bd k) (ho : o ≤ 13) (h : rLine k o b p = .ok x) : x.2.1 < 13 ∧ Ok1 k x.2.1 p (x.1, x.2.2) := rlGo_ok hB (by omega) h
/-- read_checklist -/
def rcl (b : Bytes) : Nat → CL → Nat → Nat → R CL
  | 0, k, _, _ => .ok k
  | n + 1, k, o, p => if p < b.length then (rLine k o b p).bind fun x => rcl b n x.1 (x.2.1 + 1) x.2.2 else .ok k
def rList (b : Bytes) : R CL := rcl b b.length CL0 0 0
def spList (K : PySem.W.Frag) : Sp := fun vs H Q E => ∃ (da : Addr) (b : Bytes), vs = [.ref da] ∧ SqL K H da (bv b) ∧ b.length ≤ 16384 ∧ Tabs (Tb K) H ∧ Res K (rList b) H E fun k H' => ∀ a pt, CLs K H' a pt k → Q (.ref a) H'
def invCl (K : PySem.W.Frag) (b : Bytes) (da a : Addr) (pt : Pt) (H : Hp) (E : XK) (G : CL → Hp → Prop) (m : Nat) (σ : L2.St) (Hc : Hp) : Prop :=
  ∃ (k : CL) (o p n : Nat), m = b.length - p ∧ σ = [some (.ref da), some (.ref a), some (.int (p : Nat)), some (.int ((o : Int) - 1))] ∧ Sm K H Hc ∧ CLs K Hc a pt k ∧ (k.sz < 50000 → Bd k) ∧ k.sz ≤ 3 * p ∧ o ≤ 13 ∧ (o = 8 → k.ends ≠ []) ∧ (o = 13 → k.ranges ≠ []) ∧ b.length ≤ p + n ∧ Res K (rcl b n k o p) H E G
theorem ok_read_checklist (T : Txt K mg) (tb : TB K mg base) : FnOk P w K mg base (L2N.CX P w) 11 (ga K "read_checklist") (fd K "read_checklist") ["data"] (spList K) := by
  refine okN T.d_read_checklist.fn sc_read_checklist (fun vs H Q E h => by obtain ⟨_, _, rfl, _⟩ := h; rfl) fun cdv A outer s H vs Q E hcd hr h => ?_
  refine ⟨_, (pss_cons (ps_set (i := 1) sc_read_checklist.nd rfl (Or.inl rfl) (pe_make0 T.c_CheckList.mkr (ok_CheckList_init T) (hr.mono (by decide)) rfl T.c_CheckList.g T.d_CheckList_init.b .nil pass0)) (pss_cons (ps_set (i := 2) sc_read_checklist.nd rfl (Or.inl rfl) pe_int) (pss_cons (ps_set (i := 3) sc_read_checklist.nd rfl (Or.inl rfl) (pe_un un_neg pe_int)) (pss_cons (ps_while PassesOwn.leaving (pt_cmpR op_lt (pv 2) (pe_callB call_len (by rfl) T.n_len (by decide +kernel) (pa_cons (pv 0) pa_nil)) (nomark _)) (pss_one (ps_asg (pe_call (ok_read_line T tb) (hr.mono (by decide)) rfl T.d_read_line.g T.d_read_line.k T.d_read_line.b .nil (L2N.passes_call tkN fun _ _ _ _ z => z) (pa_cons (pv 1) (pa_cons (pv 3) (pa_cons (pv 0) (pa_cons (pv 2) pa_nil))))) (pg_tup rfl (pgs_cons (pg_name (i := 3) sc_read_checklist.nd rfl (Or.inl rfl)) (pgs_cons (pg_name (i := 2) sc_read_checklist.nd rfl (Or.inl rfl)) pgs_nil)))))) (pss_one (ps_ret (pv 1))))))), ?_⟩
  obtain ⟨da, b, rfl, hS, hb, hT, h⟩ := h
  refine fun x dx hx hdx hne => ⟨x, dx, rfl, upd_same, fun H1 pt fr cl fresh => ⟨rfl, ?_⟩⟩
  have hx1 : upd H dx (.own x) x = none := by
    rw [upd_ne (Ne.symm hne)]
    exact hx
  have s0 : Sm K H (upd (upd H dx (.own x)) x (.ins (ga K "CheckList") dx [])) := (Sm.new hdx).trans (.new hx1)
  have s1 : Sm K H H1 := fr.sm s0 fun a ha => by
    rw [List.mem_singleton.mp ha]
    exact hx
  have fr0 : ∀ a ∈ pt.own x, H a = none := fun a ha => by
    by_cases e : a = x
    · rw [e]
      exact hx
    · exact free_mut _ (free_mut _ (fresh a ha e))
  refine ⟨_, rfl, ?_⟩
  refine ⟨invCl K b da x pt H E (fun k H' => ∀ a pt, CLs K H' a pt k → Q (.ref a) H'), ⟨_, CL0, 0, 0, b.length, rfl, rfl, s1, cl, fun _ => ⟨by simp [CL0], by simp [CL0], by simp [CL0], by simp [CL0], by simp [CL0], by simp [CL0], by decide⟩, by decide, by decide, (fun z => absurd z (by decide)), (fun z => absurd z (by decide)), by omega, h⟩, ?_⟩
  rintro m σ Hc ⟨k, o, p, n, rfl, rfl, hs, hC, hB, hsz, ho, h7, h12, hn, h⟩
  refine ⟨_, rfl, _, rfl, _, _, rfl, len_b (hs.l hS), _, _, rfl, rfl, _, rfl, ite2 (fun h1 => ?_) fun h1 => ?_⟩
  · have h1 : p < b.length := by
      simp at h1
      omega
    obtain ⟨n, rfl⟩ : ∃ n', n = n' + 1 := ⟨n - 1, by omega⟩; rw [rcl, if_pos h1] at h
    have hB := hB (by omega)
    refine ⟨fun σ' H' => ∃ m', m' < b.length - p ∧ invCl K b da x pt H E (fun k H' => ∀ a pt, CLs K H' a pt k → Q (.ref a) H') m' σ' H', fun _ _ z => z, ?_⟩
    refine ⟨_, rfl, _, rfl, _, rfl, _, rfl, x, pt, k, o, da, b, p, rfl, ho, h7, h12, hC, hs.l hS, hB, hs.t hT, h.stepA hs fun y H2 hy hs2 h H3 fr3 cl3 t ht => ?_⟩
    obtain ⟨r1, r2⟩ := rLine_ok hB ho hy
    refine ⟨t, _, rfl, SqT.of ht, rfl, _, _, rfl, _, _, rfl, rfl, b.length - y.2.2, ?_, y.1, y.2.1 + 1, y.2.2, n, rfl, ?_, fr3.sm (hs.trans hs2) fr0, cl3, r2.bd, ?_, by omega, fun z => r2.e7 (by omega), fun z => r2.e12 (by omega), ?_, h⟩
    · have := r2.lt
      dsimp only at this
      omega
    · show [_, _, _, some (V.int (y.2.1 : Nat))] = _
      rw [show ((y.2.1 + 1 : Nat) : Int) - 1 = (y.2.1 : Int) by omega]
    · have q1 := r2.lt
      have q2 := r2.sz
      dsimp only at q1 q2
      omega
    · have := r2.lt
      dsimp only at this
      omega
  · have h1 : ¬ p < b.length := by
      simp at h1
      omega
    have h2 : Res K (.ok k : R CL) H E fun k H' => ∀ a pt, CLs K H' a pt k → Q (.ref a) H' := by
      cases n with
      | zero => exact h
      | succ n =>
        rw [rcl, if_neg h1] at h
        exact h
    exact ⟨_, rfl, h2.okS hs x pt hC⟩
end Tc
namespace Tc
open PySem PySem.Spec PyProof.Rows L2 Fh FhCheck LamX
variable {K : PySem.W.Frag} {mg : Str → Option Value} {base : Heap} {P : Program} {w : World}
theorem pmk_of {X : Cx} {e : Expr} {t : L2.St → Hp → XK → Prop} (h : L2N.PMk X e t) : L2.PMk X e t := fun pins s σ H Q I q => thn (h pins s σ H Q I q) fun u s' ⟨a, oe, vs, sI, H', cls, d, h1, h2, h3, h4, h5, h6, r⟩ => ⟨a, oe, vs, sI, H', cls, d, h1, h2, h3, h4, h5, h6.zc, r⟩
/-- a def that may raise where nothing is handled, as a value -/
structure HeldN (P : Program) (w : World) (K : PySem.W.Frag) (mg : Str → Option Value) (base : Heap) (k : Nat) (f : Addr) (sp : Sp) : Prop where
  ex : ∃ (fd : FuncData) (ps : List Str), FnOk P w K mg base (L2N.CX P w) k f fd ps sp ∧ PySem.W.keepIn K (.ref f) = true ∧ L2.Binds K fd ps []
def tCallV (P : Program) (w : World) (K : PySem.W.Frag) (mg : Str → Option Value) (base : Heap) (k i : Nat) (E : L2.St → XK) (t : TA) : TE := fun σ H Q => ∃ f sp, σ[i]? = some (some (.ref f)) ∧ HeldN P w K mg base k f sp ∧ t σ H fun vs H1 => sp vs H1 Q (E σ)
/-- x(e, ..), x a name that holds such a def -/
theorem pe_callV {X : Cx} {k i : Nat} {E : L2.St → XK} {x : Str} {p pos : Pos} {e : Expr} {es : List Expr} {t : TA} (hr : Room k X.A) (hN : X.N[i]? = some x) (hv : Vis X.env.scope x) (hx : ∀ σ, PassesAt (L2N.CX X.prog X.w) X σ (E σ)) (ha : PA X (e :: es) t) (hdb : (x == ("__debug__" : Str)) = false := by decide) (hcd : (x == ("__classdict__" : Str)) = false := by decide)
    (he : starEach (e :: es) X.env = (false, eval e X.env) :: starEach es X.env := by rfl) (hpl : (backTo pos (starEach es X.env)).any (·.1) = false := by rfl) : PE X (.Call (.Name x p) (e :: es) [] pos) (tCallV X.prog X.w X.K X.mg X.base k i E t) := by
  refine ⟨fun pins s σ H Q I h => ?_⟩; obtain ⟨f, sp, hs, F, ht⟩ := h
  obtain ⟨fd, ps, F, hk, hb⟩ := F.ex
  refine wpAny_Call_Name_kw (thn ((pe_var (pos := p) hN hv hdb hcd).run pins s σ H (fun v H1 => v = .ref f ∧ H1 = H) I ⟨.ref f, hs, rfl, rfl⟩) fun u s1 ⟨v, H1, I1, r1, q1⟩ => ?_); obtain ⟨rfl, rfl⟩ := q1
  cases r1
  refine PySem.W.callWith_K (h₀ := X.base) I.ok.mod.kin hk (thn (ha.run pos pins s1 σ _ _ I1 ht) fun us s2 ⟨vs, H2, I2, r, q⟩ => ⟨I2.kIn, ?_⟩) he hpl; exact run_fnS F hr hb (hx σ) I2 r q
/-- what is wished of a refusal -/
def Ref (K : PySem.W.Frag) (x : Str) (H : Hp) (E : XK) (l : List V) : Prop := ∀ H' L d, Sm K H H' → H' L = some (.lst l) → H' d = some (.xd [("answer", .ref L)]) → E (.ref (ga K x)) (some d) H'
/-- refuse_long -/
def spLong (K : PySem.W.Frag) : Sp := fun vs H Q E => ∃ (a : Addr) (b : Bytes) (n : Nat), vs = [.ref a, .int n] ∧ SqL K H a (bv b) ∧ (b.length ≤ n → Q .non H) ∧ (n < b.length → Ref K "TooMuch" H E [.int (-6)])
theorem ok_refuse_long (T : Txt K mg) : FnOk P w K mg base (L2.CX P w) 4 (ga K "refuse_long") (fd K "refuse_long") ["data", "most"] (spLong K) := by
  refine T.d_refuse_long.fn.okX sc_refuse_long (fun vs H Q E h => by obtain ⟨_, _, _, rfl, _⟩ := h; rfl) fun cdv A outer s H vs Q E hr h => ?_
  refine ⟨_, (pss_one (ps_if (pt_cmpR op_gt (pe_callB call_len (by rfl) T.n_len (by decide +kernel) (pa_cons (pv 0) pa_nil)) (pv 1) (nomark _)) (pss_one (L2.ps_raise rfl tkZ (pmk_of (pmk_neg T.xb T.e_TooMuch T.eI_TooMuch T.ref (by exact Nat.lt_of_le_of_lt (Nat.add_le_add_left (by decide : 10 ≤ 3 * 3 + 5) _) hr.dp)).pmk))) pss_nil)), ?_⟩
  obtain ⟨a, b, n, rfl, hS, q1, q2⟩ := h
  refine ⟨_, rfl, _, _, rfl, len_b hS, _, rfl, _, _, rfl, rfl, _, rfl, ite2 (fun h1 => ?_) fun h1 => ?_⟩
  · intro L d hL hd hne
    refine q2 (by simp at h1; omega) _ L d ((Sm.new hL).trans (.new (by rw [upd_ne (Ne.symm hne)]; exact hd))) ?_ upd_same
    rw [upd_ne hne]
    exact upd_same
  · exact q1 (by simp at h1; omega)
/-- read_text -/
def spText (P : Program) (w : World) (mg : Str → Option Value) (base : Heap) (K : PySem.W.Frag) : Sp := fun vs H Q E => ∃ (f da : Addr) (sp : Sp) (kd : Int), vs = [.ref f, .ref da, .int kd] ∧ HeldN P w K mg base 11 f sp ∧
  ∀ E2 : XK, (∀ (dd : Addr) (p : Nat) (H' : Hp), H' dd = some (.xd [("place", .int (p : Nat))]) → Ref K "WrongText" H' E [.int (-5), .int kd, .int (p : Nat)] → E2 (.ref (ga K "Stuck")) (some dd) H') → sp [.ref da] H Q E2
theorem ok_read_text (T : Txt K mg) : FnOk P w K mg base (L2.CX P w) 13 (ga K "read_text") (fd K "read_text") ["reader", "data", "kind"] ((spText P w mg base) K) := by
  refine T.d_read_text.fn.okX sc_read_text (fun vs H Q E h => by obtain ⟨_, _, _, _, rfl, _⟩ := h; rfl) fun cdv A outer s H vs Q E hr h => ?_
  refine ⟨_, (pss_one (Tl.ps_try_asX (i := 3) (tb := fun W => tRet (tCallV P w K mg base 11 0 (WE W) (tCons (tVar 1) tNil))) (ts := fun a cls d => fun _ σ H => tMkW (ga K "WrongText") (tCons (tVar 2) (tCons (Tl.tXg K a cls d "place" (tVar 3)) tNil)) σ H fun cls d H' => (fun cls d (σ : L2.St) H => E cls d H) cls d (σ.set 3 none) H') rfl rfl sc_read_text.nd rfl rfl ⟨rfl, by decide, .inl T.stuck.gC⟩ (L2H.passesAt_of rfl) tkZ (fun W pn xe tk _ => by exact (pss_one (ps_ret (pe_callV (k := 11) (i := 0) (hr.mono (by decide)) rfl (.inl rfl) (fun σ => L2N.passAt tk σ) (pa_cons (pv 1) pa_nil))))) (fun a oe cls dd pn hz hf tk2 hot => by exact (pss_one (L2H.ps_raiseHN hot tk2 (pmk_wrong T.xb T.wrong T.wrongI T.ref (by exact Nat.lt_of_le_of_lt (Nat.add_le_add_left (by decide : 10 ≤ 3 * 12 + 5) _) hr.dp) (by exact (pa_cons (pv 2) (pa_cons (Tl.pe_field List.mem_cons_self hz.zc hf (pv 3)) pa_nil))))))))), ?_⟩
  obtain ⟨f, da, sp, kd, rfl, hF, h⟩ := h
  refine ⟨f, sp, rfl, hF, _, rfl, h _ fun dd p H' hd hR => ⟨true, T.xm_Stuck_Stuck, fun _ a2 ha2 => ?_, fun q => nomatch q⟩⟩
  refine ⟨_, rfl, _, rfl, rfl, _, rfl, T.fld_Stuck, dd, _, _, rfl, hd, rfl, _, _, rfl, fun L d hL hd2 hne => ?_⟩
  refine hR _ L d ((Sm.new hL).trans (.new (by rw [upd_ne (Ne.symm hne)]; exact hd2))) ?_ upd_same
  rw [upd_ne hne]
  exact upd_same
theorem held_list (T : Txt K mg) (tb : TB K mg base) : HeldN P w K mg base 11 (ga K "read_checklist") (spList K) := ⟨⟨_, _, ok_read_checklist T tb, T.d_read_checklist.k, T.d_read_checklist.b⟩⟩
end Tc
namespace Tc
open PySem L2 PySem.Spec PyProof.Rows Fh FhCheck
variable {K : PySem.W.Frag} {mg : Str → Option Value} {base : Heap} {P : Program} {w : World}
/-! ### characters -/
def spDig (K : PySem.W.Frag) : Sp := fun vs H Q E => ∃ c : Nat, vs = [.int c] ∧ Q (.bl (digit c)) H
theorem ok_is_digit (T : Txt K mg) : FnOk P w K mg base CX0 1 (ga K "is_digit") (fd K "is_digit") ["character"] (spDig K) := by
  refine T.d_is_digit.fn.ok sc_is_digit (fun vs H Q E h => by obtain ⟨_, rfl, _⟩ := h; rfl) fun cdv A outer s H vs Q E hr h => ?_
  refine ⟨_, (pss_one (ps_ret (pe_chain op_le op_le pe_int (pv 0) pe_int))), ?_⟩
  obtain ⟨c, rfl, q⟩ := h
  refine ⟨_, rfl, _, _, rfl, rfl, _, rfl, ite2 (fun h1 => ?_) fun h1 => ?_⟩
  · refine ⟨_, _, rfl, rfl, ?_⟩
    have e : digit c = decide ((c : Int) ≤ 57) := by
      simp at h1
      rw [digit, decide_eq_true (by omega), Bool.true_and, decide_eq_decide]
      omega
    rw [e] at q
    exact q
  · have e : digit c = false := by
      simp at h1
      rw [digit, decide_eq_false (by omega), Bool.false_and]
    exact e ▸ q
def spSgn (K : PySem.W.Frag) : Sp := fun vs H Q E => ∃ c : Nat, vs = [.int c] ∧ Q (.bl (isSign c)) H
theorem isSign_eq (c : Nat) : isSign c = rangesL.any fun x => decide (x.1 ≤ c) && decide (c ≤ x.2) := rfl
theorem ok_is_sign (T : Txt K mg) : FnOk P w K mg base CX0 1 (ga K "is_sign") (fd K "is_sign") ["character"] (spSgn K) := by
  refine T.d_is_sign.fn.ok sc_is_sign (fun vs H Q E h => by obtain ⟨_, rfl, _⟩ := h; rfl) fun cdv A outer s H vs Q E hr h => ?_
  refine ⟨_, (pss_cons (ps_for PassesOwn.never rfl (pi_tup (pe_glob (v := .ref (ga K "SIGN_RANGES")) rfl T.g_SIGN_RANGES rfl)) (pg_tup rfl (pgs_cons (pg_name (i := 1) sc_is_sign.nd rfl (by first | exact Or.inl rfl | exact Or.inr rfl)) (pgs_cons (pg_name (i := 2) sc_is_sign.nd rfl (by first | exact Or.inl rfl | exact Or.inr rfl)) pgs_nil))) (pss_one (ps_if (pt_chain op_le op_le (pv 1) (pv 0) (pv 2)) (pss_one (ps_ret pe_bl)) pss_nil))) (pss_one (ps_ret pe_bl))), ?_⟩
  obtain ⟨c, rfl, q⟩ := h
  obtain ⟨ts, ht, hlen, hat⟩ := T.t_SIGN_RANGES
  refine ⟨_, rfl, ⟨_, ht H⟩, for_tup (xs := ts.map V.ref) (fun i σ H' => H' = H ∧ (∃ o1 o2, σ = [some (.int c), o1, o2]) ∧ ∀ x ∈ rangesL.take i, ¬ (x.1 ≤ c ∧ c ≤ x.2)) ⟨rfl, ⟨_, _, rfl⟩, by simp⟩ (fun _ _ H' _ _ => ht H') ?_ ?_⟩
  · rintro i x σ Hz hx ⟨rfl, ⟨o1, o2, rfl⟩, hno⟩
    rw [List.getElem?_map] at hx
    obtain ⟨t, hti, rfl⟩ := Option.map_eq_some_iff.mp hx
    have hi9 : i < rangesL.length := by
      obtain ⟨z, _⟩ := List.getElem?_eq_some_iff.mp hti
      exact hlen ▸ z
    obtain ⟨⟨a, b⟩, hab⟩ := lt_some hi9
    obtain ⟨t', ht', tk⟩ := hat i (a, b) hab
    rw [hti] at ht'
    cases ht'
    have step : ¬ (a ≤ c ∧ c ≤ b) → ∀ x ∈ rangesL.take (i + 1), ¬ (x.1 ≤ c ∧ c ≤ x.2) := fun z x hx => by
      rw [List.take_add_one, hab, List.mem_append] at hx
      rcases hx with hx | hx
      · exact hno x hx
      · simp at hx
        subst hx
        exact z
    refine ⟨t, _, rfl, tk _, rfl, _, _, rfl, _, _, rfl, rfl, ?_⟩
    refine ⟨_, rfl, _, rfl, _, _, rfl, rfl, _, rfl, ite2 (fun h1 => ?_) fun h1 => ?_⟩
    · refine ⟨_, rfl, _, _, rfl, rfl, _, rfl, ite2 (fun h2 => ?_) fun h2 => ?_⟩
      · simp at h1 h2
        have e : isSign c = true := by
          rw [isSign_eq, List.any_eq_true]
          exact ⟨(a, b), List.mem_of_getElem? hab, by simp only [Bool.and_eq_true, decide_eq_true_eq]; omega⟩
        exact e ▸ q
      · simp at h1 h2
        exact ⟨rfl, ⟨_, _, rfl⟩, step (by omega)⟩
    · simp at h1
      exact ⟨_, rfl, iteF ⟨rfl, ⟨_, _, rfl⟩, step (by omega)⟩⟩
  · rintro σ Hz ⟨rfl, ⟨o1, o2, rfl⟩, hno⟩
    have e : isSign c = false := by
      rw [isSign_eq, List.any_eq_false]
      rw [List.length_map, hlen] at hno
      intro x hx
      have z := hno x hx
      simp only [Bool.and_eq_true, decide_eq_true_eq]; exact z
    exact e ▸ q
def spWch (K : PySem.W.Frag) : Sp := fun vs H Q E => ∃ c : Nat, vs = [.int c] ∧ Q (.bl (isWordChar c)) H
theorem ok_is_of_word (T : Txt K mg) : FnOk P w K mg base CX0 2 (ga K "is_of_word") (fd K "is_of_word") ["character"] (spWch K) := by
  refine T.d_is_of_word.fn.ok sc_is_of_word (fun vs H Q E h => by obtain ⟨_, rfl, _⟩ := h; rfl) fun cdv A outer s H vs Q E hr h => ?_
  refine ⟨_, (pss_one (ps_ret (pe_and (pe_cmpR op_ne (pv 0) (pe_gi rfl T.i_BLANK) (nomark _)) (pe_one (pe_not (pe_call (ok_is_sign T) (hr.mono (by decide)) rfl T.d_is_sign.g T.d_is_sign.k T.d_is_sign.b .nil pass0 (pa_cons (pv 0) pa_nil))))))), ?_⟩
  obtain ⟨c, rfl, q⟩ := h
  refine ⟨_, rfl, rfl, _, rfl, ite2 (fun h1 => ?_) fun h1 => ?_⟩
  · refine ⟨_, rfl, c, rfl, _, rfl, ?_⟩
    have e : isWordChar c = !isSign c := by
      simp at h1
      rw [isWordChar, show (c != BLANK) = true by simp [BLANK]; omega, Bool.true_and]
    exact e ▸ q
  · have e : isWordChar c = false := by
      simp at h1
      rw [isWordChar, show (c != BLANK) = false by simp [BLANK]; omega, Bool.false_and]
    exact e ▸ q
theorem and16 (c : Nat) : Builtin.bitAnd (c : Int) 65535 = ((c % 65536 : Nat) : Int) := by
  rw [show (65535 : Int) = ((65535 : Nat) : Int) from rfl, PySem.W.os_band, Nat.and_two_pow_sub_one_eq_mod c 16]
def spNxt (K : PySem.W.Frag) : Sp := fun vs H Q E => ∃ c : Nat, vs = [.int c] ∧ c < 2 ^ 40 ∧ Q (.int (nextChar c : Nat)) H
theorem ok_next_character (T : Txt K mg) : FnOk P w K mg base CX0 1 (ga K "next_character") (fd K "next_character") ["least"] (spNxt K) := by
  refine T.d_next_character.fn.ok sc_next_character (fun vs H Q E h => by obtain ⟨_, rfl, _⟩ := h; rfl) fun cdv A outer s H vs Q E hr h => ?_
  refine ⟨_, (pss_cons (ps_if (pt_cmpR op_lt (pv 0) pe_int (nomark _)) (pss_one (ps_ret pe_int)) pss_nil) (pss_cons (ps_if (pt_chain op_le op_le pe_int (pv 0) pe_int) (pss_one (ps_ret pe_int)) pss_nil) (pss_cons (ps_if (pt_chain op_le op_le pe_int (pv 0) pe_int) (pss_one (ps_ret pe_int)) pss_nil) (pss_cons (ps_if (pt_cmpR op_ge (pe_op op_and (pv 0) pe_int) pe_int (nomark _)) (pss_one (ps_ret (pe_op op_shl (pe_op op_add (pe_op op_shr (pv 0) pe_int) pe_int) pe_int))) pss_nil) (pss_one (ps_ret (pv 0))))))), ?_⟩
  obtain ⟨c, rfl, hc, q⟩ := h
  unfold nextChar at q
  refine ⟨_, rfl, _, _, rfl, rfl, _, rfl, ite2 (fun h1 => ?_) fun h1 => ?_⟩
  · simp at h1
    rw [if_pos (by omega)] at q
    exact q
  simp at h1
  rw [if_neg (by omega)] at q
  dsimp only [tNext, tSeq]
  refine if_use (b := decide (127 ≤ c ∧ c ≤ 159)) (P := fun H' => H' = H) (fun Q' q' => ?_) ?_
  · refine ⟨_, rfl, _, _, rfl, rfl, _, rfl, ite2 (fun h2 => ?_) fun h2 => ?_⟩
    · simp at h2
      refine ⟨_, _, rfl, rfl, _, rfl, ?_⟩
      have z := q' _ rfl
      rw [show decide (127 ≤ c ∧ c ≤ 159) = decide ((c : Int) ≤ 159) by rw [decide_eq_decide]; omega] at z
      exact z
    · simp at h2
      have z := q' _ rfl
      rw [show decide (127 ≤ c ∧ c ≤ 159) = false by simp; omega] at z
      exact ⟨_, rfl, z⟩
  rintro H1 rfl
  refine ite2 (fun h2 => ?_) fun h2 => ?_
  · rw [if_pos (of_decide_eq_true h2)] at q
    exact q
  rw [if_neg (of_decide_eq_false (by simpa using h2))] at q
  dsimp only [tNext, tSeq]
  refine if_use (b := decide (55296 ≤ c ∧ c ≤ 57343)) (P := fun H' => H' = H1) (fun Q' q' => ?_) ?_
  · refine ⟨_, rfl, _, _, rfl, rfl, _, rfl, ite2 (fun h2 => ?_) fun h2 => ?_⟩
    · simp at h2
      refine ⟨_, _, rfl, rfl, _, rfl, ?_⟩
      have z := q' _ rfl
      rw [show decide (55296 ≤ c ∧ c ≤ 57343) = decide ((c : Int) ≤ 57343) by rw [decide_eq_decide]; omega] at z
      exact z
    · simp at h2
      have z := q' _ rfl
      rw [show decide (55296 ≤ c ∧ c ≤ 57343) = false by simp; omega] at z
      exact ⟨_, rfl, z⟩
  rintro H2 rfl
  refine ite2 (fun h3 => ?_) fun h3 => ?_
  · rw [if_pos (of_decide_eq_true h3)] at q
    exact q
  rw [if_neg (of_decide_eq_false (by simpa using h3))] at q
  refine ⟨_, rfl, _, _, rfl, rfl, ?_⟩
  dsimp only
  rw [and16]
  refine ⟨_, _, rfl, rfl, _, rfl, ite2 (fun h4 => ?_) fun h4 => ?_⟩
  · simp at h4
    rw [if_pos (by omega)] at q
    have e0 : (c : Int) / 2 ^ (16 : Int).toNat = ((c / 65536 : Nat) : Int) := by
      show (c : Int) / 2 ^ 16 = _
      omega
    refine ⟨_, rfl, _, _, rfl, rfl, by show (0 : Int) ≤ 16; decide, _, _, rfl, rfl, _, _, rfl, rfl, ⟨by omega, by omega, by omega⟩, ?_⟩
    have e : ((c : Int) / 2 ^ (16 : Int).toNat + 1) * 2 ^ (16 : Int).toNat = (((c / 65536 + 1) * 65536 : Nat) : Int) := by
      show ((c : Int) / 2 ^ 16 + 1) * 2 ^ 16 = _
      omega
    dsimp only
    rw [e]
    exact q
  · simp at h4
    rw [if_neg (by omega)] at q
    exact ⟨_, rfl, q⟩
/-- some_character -/
def someChar (lo hi : Nat) : Bool := decide (nextChar lo ≤ min hi 1114111)
def spSomeC (K : PySem.W.Frag) : Sp := fun vs H Q E => ∃ lo hi : Nat, vs = [.int lo, .int hi] ∧ lo < 2 ^ 40 ∧ Q (.bl (someChar lo hi)) H
theorem ok_some_character (T : Txt K mg) : FnOk P w K mg base CX0 2 (ga K "some_character") (fd K "some_character") ["low", "high"] (spSomeC K) := by
  refine T.d_some_character.fn.ok sc_some_character (fun vs H Q E h => by obtain ⟨_, _, rfl, _⟩ := h; rfl) fun cdv A outer s H vs Q E hr h => ?_
  refine ⟨_, (pss_one (ps_ret (pe_cmpR op_le (pe_call (ok_next_character T) (hr.mono (by decide)) rfl T.d_next_character.g T.d_next_character.k T.d_next_character.b .nil pass0 (pa_cons (pv 0) pa_nil)) (pe_callB (call_min2 rfl) (by rfl) T.n_min (by decide +kernel) (pa_cons (pv 1) (pa_cons (pe_gi rfl T.i_LAST_NUMBER) pa_nil))) (nomark _)))), ?_⟩
  obtain ⟨lo, hi, rfl, hc, q⟩ := h
  refine ⟨_, rfl, lo, rfl, hc, _, rfl, _, _, rfl, _, _, rfl, rfl, ?_⟩
  have e : someChar lo hi = decide (((nextChar lo : Nat) : Int) ≤ if (1114111 : Int) < (hi : Int) then (1114111 : Int) else (hi : Int)) := by
    rw [someChar, decide_eq_decide]
    split <;> omega
  rw [e] at q
  exact q
end Tc
namespace Tc
open PySem L2 PySem.Spec PyProof.Rows Fh FhCheck
variable {K : PySem.W.Frag} {mg : Str → Option Value} {base : Heap} {P : Program} {w : World}
/-- x(e, ..), x a name that holds a def that lets nothing out -/
theorem pe_callF {X : Cx} {k i : Nat} {f : Addr} {fd : FuncData} {ps : List Str} {sp : Sp} {x : Str} {p pos : Pos} {e : Expr} {es : List Expr} {t : TA} (F : FnOk X.prog X.w X.K X.mg X.base CX0 k f fd ps sp) (hr : Room k X.A) (hk : PySem.W.keepIn X.K (.ref f) = true) (hb : L2.Binds X.K fd ps [])
    (hN : X.N[i]? = some x) (hv : Vis X.env.scope x) (ha : PA X (e :: es) t) (hdb : (x == ("__debug__" : Str)) = false := by decide) (hcd : (x == ("__classdict__" : Str)) = false := by decide)
    (hst : starEach (e :: es) X.env = (false, eval e X.env) :: starEach es X.env := by rfl) (hpl : (backTo pos (starEach es X.env)).any (·.1) = false := by rfl) :
    PE X (.Call (.Name x p) (e :: es) [] pos) (fun σ H Q => σ[i]? = some (some (.ref f)) ∧ t σ H fun vs H1 => sp vs H1 Q E0) := by
  refine ⟨fun pins s σ H Q I h => ?_⟩; obtain ⟨hs, ht⟩ := h
  refine wpAny_Call_Name_kw (thn ((pe_var (pos := p) hN hv hdb hcd).run pins s σ H (fun v H1 => v = .ref f ∧ H1 = H) I ⟨.ref f, hs, rfl, rfl⟩) fun u s1 ⟨v, H1, I1, r1, q1⟩ => ?_); obtain ⟨rfl, rfl⟩ := q1
  cases r1
  refine PySem.W.callWith_K (h₀ := X.base) I.ok.mod.kin hk (thn (ha.run pos pins s1 σ _ _ I1 ht) fun us s2 ⟨vs, H2, I2, r, q⟩ => ⟨I2.kIn, ?_⟩) hst hpl; exact run_fn F hr hb .nil pass0 I2 r (by rw [List.append_nil]; exact q)
/-- read_character of any character -/
def rAny (b : Bytes) (p : Nat) : R (Nat × Nat) := rChar someChar b p
def spAny (K : PySem.W.Frag) : Sp := fun vs H Q E => ∃ (a : Addr) (b : Bytes) (p : Nat), vs = [.ref a, .int p, .ref (ga K "some_character")] ∧ SqL K H a (bv b) ∧
  Res K (rAny b p) H E fun x H' => ∀ t, H' t = some (.tup [.int (x.1 : Nat), .int (x.2 : Nat)]) → Q (.ref t) H'
theorem ok_read_character (T : Txt K mg) : FnOk P w K mg base (L2N.CX P w) 6 (ga K "read_character") (fd K "read_character") ["data", "start", "wanted"] (spAny K) := by
  refine okN T.d_read_character.fn sc_read_character (fun vs H Q E h => by obtain ⟨_, _, _, rfl, _⟩ := h; rfl) fun cdv A outer s H vs Q E hcd hr h => ?_
  obtain ⟨a, b, p, rfl, hS, h⟩ := h
  refine rc_body T (hr.mono (by decide)) (fun _ => True) (fun vs H Q => spSomeC K vs H Q E0) (fun ta ha => ?_) (fun _ _ => trivial) someChar (fun lo hi H' Q' _ hlo q => ⟨lo, hi, rfl, hlo, q⟩) hS h
  exact ⟨fun pins s1 σ H1 Q1 I h => (pe_callF (X := zRc P w K mg base cdv A outer s H E) (i := 2) (ok_some_character T) (hr.mono (by decide)) T.d_some_character.k T.d_some_character.b rfl (.inl rfl) ha).run pins s1 σ H1 Q1 I ⟨h.1, h.2.2⟩⟩
/-! ### pieces -/
def tagD : List (Key × V) := [(Sum.inl 43, .int 1), (Sum.inl 45, .int 2), (Sum.inl 46, .int 3)]
/-- the kinds of tags, a dict of the module -/
def TagK (K : PySem.W.Frag) (H : Hp) : Prop := Rd H (ga K "TAG_KINDS") (.dK tagD)
def kindOf (c : Nat) : Option Nat := if c = 43 then some 1 else if c = 45 then some 2 else if c = 46 then some 3 else none
theorem tag_val (c : Nat) : valV tagD (Sum.inl (c : Int)) = (kindOf c).map fun n => V.int (n : Nat) := by
  unfold kindOf tagD
  by_cases h1 : c = 43
  · subst h1; rfl
  rw [if_neg h1, valV_neg (p := (Sum.inl 43, V.int 1)) (by intro z; injection z with z; omega)]
  by_cases h2 : c = 45
  · subst h2; rfl
  rw [if_neg h2, valV_neg (p := (Sum.inl 45, V.int 2)) (by intro z; injection z with z; omega)]
  by_cases h3 : c = 46
  · subst h3; rfl
  rw [if_neg h3, valV_neg (p := (Sum.inl 46, V.int 3)) (by intro z; injection z with z; omega)]
  rfl
def rTag (b : Bytes) (p : Nat) : R ((Nat × Nat) × Nat) := match b[p]? with
  | none => .error p
  | some c => if c.toNat = 123 then .ok ((0, 123), p + 1) else match kindOf c.toNat with
    | none => .error p
    | some k => (rNum b (p + 1) 1 999).bind fun y => (rWord b y.2 [125]).bind fun q => .ok ((k, y.1), q)
theorem tx_cb : Str.ofString "}" = tx [125] := by decide +kernel
/-- read_piece -/
def rPiece (b : Bytes) (p : Nat) : R ((Nat × Nat) × Nat) := (rAny b p).bind fun x => if x.1 = 123 then rTag b x.2 else .ok ((0, x.1), x.2)
def spPiece (K : PySem.W.Frag) : Sp := fun vs H Q E => ∃ (a : Addr) (b : Bytes) (p : Nat), vs = [.ref a, .int p] ∧ SqL K H a (bv b) ∧ TagK K H ∧
  Res K (rPiece b p) H E fun x H' => ∀ t u, H' u = some (tup2 x.1) → H' t = some (.tup [.ref u, .int (x.2 : Nat)]) → Q (.ref t) H'
theorem ok_read_piece (T : Txt K mg) : FnOk P w K mg base (L2N.CX P w) 7 (ga K "read_piece") (fd K "read_piece") ["data", "start"] (spPiece K) := by
  refine okN T.d_read_piece.fn sc_read_piece (fun vs H Q E h => by obtain ⟨_, _, _, rfl, _⟩ := h; rfl) fun cdv A outer s H vs Q E hcd hr h => ?_
  refine ⟨_, (pss_cons (ps_asg (pe_call (ok_read_character T) (hr.mono (by decide)) rfl T.d_read_character.g T.d_read_character.k T.d_read_character.b .nil (L2N.passes_call tkN fun _ _ _ _ z => z) (pa_cons (pv 0) (pa_cons (pv 1) (pa_cons (pe_glob (v := .ref (ga K "some_character")) rfl T.d_some_character.g rfl) pa_nil)))) (pg_tup rfl (pgs_cons (pg_name (i := 2) sc_read_piece.nd rfl (by first | exact Or.inl rfl | exact Or.inr rfl)) (pgs_cons (pg_name (i := 3) sc_read_piece.nd rfl (by first | exact Or.inl rfl | exact Or.inr rfl)) pgs_nil)))) (pss_cons (ps_if (pt_cmpR op_ne (pv 2) (pe_gi rfl T.i_BRACE) (nomark _)) (pss_one (ps_ret (pe_tup (pa_cons (pe_tup (pa_cons (pe_gi rfl T.i_CHARACTER) (pa_cons (pv 2) pa_nil))) (pa_cons (pv 3) pa_nil))))) pss_nil) (pss_cons (ps_if (pt_cmpR op_ge (pv 3) (pe_callB call_len (by rfl) T.n_len (by decide +kernel) (pa_cons (pv 0) pa_nil)) (nomark _)) (pss_one (L2N.ps_raise rfl tkN (pmk_stuck T.xb T.stuck T.stuckI (by exact Nat.lt_of_le_of_lt (Nat.add_le_add_left (by decide : 10 ≤ 3 * 6 + 5) _) hr.dp) (by exact (pa_cons (pv 3) pa_nil))).pmk)) pss_nil) (pss_cons (ps_if (pt_cmpR op_eq (pe_ix ix_list (pv 0) (pv 3) (fun _ _ => rfl)) (pe_gi rfl T.i_BRACE) (nomark _)) (pss_one (ps_ret (pe_tup (pa_cons (pe_tup (pa_cons (pe_gi rfl T.i_CHARACTER) (pa_cons (pe_gi rfl T.i_BRACE) pa_nil))) (pa_cons (pe_op op_add (pv 3) pe_int) pa_nil))))) pss_nil) (pss_cons (ps_set (i := 4) sc_read_piece.nd rfl (by first | exact Or.inl rfl | exact Or.inr rfl) (pe_dget1 (hu_of hr) (pe_glob (v := .ref (ga K "TAG_KINDS")) rfl T.g_TAG_KINDS rfl) (pe_ix ix_list (pv 0) (pv 3) (fun _ _ => rfl)) ⟨by rfl, by rfl, by rfl, by rfl⟩)) (pss_cons (ps_if (pt_cmpR op_isN (pv 4) pe_non (nomark _)) (pss_one (L2N.ps_raise rfl tkN (pmk_stuck T.xb T.stuck T.stuckI (by exact Nat.lt_of_le_of_lt (Nat.add_le_add_left (by decide : 10 ≤ 3 * 6 + 5) _) hr.dp) (by exact (pa_cons (pv 3) pa_nil))).pmk)) pss_nil) (pss_cons (ps_asg (pe_call (ok_read_number T) (hr.mono (by decide)) rfl T.d_read_number.g T.d_read_number.k T.d_read_number.b .nil (L2N.passes_call tkN fun _ _ _ _ z => z) (pa_cons (pv 0) (pa_cons (pe_op op_add (pv 3) pe_int) (pa_cons pe_int (pa_cons (pe_gi rfl T.i_MOST_TAG_NUMBER) pa_nil))))) (pg_tup rfl (pgs_cons (pg_name (i := 5) sc_read_piece.nd rfl (by first | exact Or.inl rfl | exact Or.inr rfl)) (pgs_cons (pg_name (i := 3) sc_read_piece.nd rfl (by first | exact Or.inl rfl | exact Or.inr rfl)) pgs_nil)))) (pss_one (ps_ret (pe_tup (pa_cons (pe_tup (pa_cons (pv 4) (pa_cons (pv 5) pa_nil))) (pa_cons (pe_call (ok_read_word T) (hr.mono (by decide)) rfl T.d_read_word.g T.d_read_word.k T.d_read_word.b .nil (L2N.passes_call tkN fun _ _ _ _ z => z) (pa_cons (pv 0) (pa_cons (pv 3) (pa_cons pe_str pa_nil)))) pa_nil)))))))))))), ?_⟩
  obtain ⟨a, b, p, rfl, hS, hK, h⟩ := h
  unfold rPiece at h
  refine ⟨_, rfl, _, rfl, a, b, p, rfl, hS, h.step fun x H1 hx hs1 h t ht => ?_⟩
  have hS := hs1.l hS
  have hK := hs1.rd hK
  refine ⟨t, _, rfl, SqT.of ht, rfl, _, _, rfl, _, _, rfl, rfl, ?_⟩
  refine ⟨_, rfl, rfl, _, rfl, ite2 (fun h1 => ?_) fun h1 => ?_⟩
  · have h1 : ¬ x.1 = 123 := by
      simp at h1
      omega
    rw [if_neg h1] at h
    exact ⟨_, rfl, by show 2 ≤ sizeLine; decide, fun u hu => ⟨_, rfl, by show 2 ≤ sizeLine; decide, fun v hv => h.okS ((Sm.new hu).trans (.new hv)) v u (by rw [upd_ne (ne_of_none upd_same hv)]; exact upd_same) upd_same⟩⟩
  have h1 : x.1 = 123 := by
    simp at h1
    omega
  rw [if_pos h1, rTag] at h
  refine ⟨_, rfl, _, rfl, _, _, rfl, len_b hS, _, _, rfl, rfl, _, rfl, ite2 (fun h2 => ?_) fun h2 => ?_⟩
  · simp at h2
    rw [List.getElem?_eq_none (by omega)] at h
    exact ⟨_, rfl, _, rfl, fun d hd => h.err.at hd⟩
  simp at h2
  obtain ⟨c, hc⟩ := lt_some (l := b) (i := x.2) (by omega)
  rw [hc] at h
  dsimp only at h
  refine ⟨_, rfl, _, rfl, _, _, _, _, rfl, rfl, hS, bv_at hc, rfl, _, rfl, ite2 (fun h3 => ?_) fun h3 => ?_⟩
  · have h3 : c.toNat = 123 := by
      simp at h3
      omega
    rw [if_pos h3] at h
    exact ⟨by show 2 ≤ sizeLine; decide, fun u hu => ⟨_, rfl, _, _, rfl, rfl, by show 2 ≤ sizeLine; decide, fun v hv => h.okS ((Sm.new hu).trans (.new hv)) v u (by rw [upd_ne (ne_of_none upd_same hv)]; exact upd_same) upd_same⟩⟩
  have h3 : ¬ c.toNat = 123 := by
    simp at h3
    omega
  rw [if_neg h3] at h
  refine ⟨_, rfl, .inl ⟨_, hK⟩, _, rfl, _, rfl, _, _, _, _, rfl, rfl, hS, bv_at hc, _, .inl ⟨tagD, Sum.inl _, hK, rfl, rfl⟩, ?_⟩
  rw [tag_val]
  cases hk : kindOf c.toNat with
  | none =>
    rw [hk] at h
    exact ⟨_, rfl, rfl, _, rfl, iteT ⟨_, rfl, _, rfl, fun d hd => h.err.at hd⟩⟩
  | some k =>
    rw [hk] at h
    refine ⟨_, rfl, rfl, _, rfl, iteF ?_⟩
    refine ⟨_, rfl, _, rfl, _, _, rfl, rfl, a, b, x.2 + 1, 1, 999, rfl, hS, by decide, h.step fun y H2 hy hs2 h u hu => ?_⟩
    refine ⟨u, _, rfl, SqT.of hu, rfl, _, _, rfl, _, _, rfl, rfl, ?_⟩
    refine ⟨_, rfl, _, rfl, by show 2 ≤ sizeLine; decide, fun v hv => ⟨_, rfl, _, rfl, a, b, [125], y.2, by rw [tx_cb]; rfl, (Sm.new hv).l (hs2.l hS), (h.same (.new hv)).step fun q H3 hq hs3 h => ?_⟩⟩
    exact ⟨by show 2 ≤ sizeLine; decide, fun z hz => h.okS (.new hz) z v (by rw [upd_ne (ne_of_none (hs3.at upd_same) hz)]; exact hs3.at upd_same) upd_same⟩
end Tc
namespace Tc
open PySem L2 PySem.Spec PyProof.Rows Fh FhCheck
variable {K : PySem.W.Frag} {mg : Str → Option Value} {base : Heap} {P : Program} {w : World}
/-! ### runs of marks -/
def runStep (m : List Bool) (st : Nat × List (Nat × Nat)) (i : Nat) : Nat × List (Nat × Nat) :=
  let s := if (m.getD i false && (decide (i = 0) || !m.getD (i - 1) false)) = true then i else st.1
  (s, if (m.getD i false && (decide (i + 1 = m.length) || !m.getD (i + 1) false)) = true then st.2 ++ [(s, i + 1)] else st.2)
def runFold (m : List Bool) (n : Nat) : Nat × List (Nat × Nat) := (List.range n).foldl (runStep m) (0, [])
/-- find_runs -/
def runsB (m : List Bool) : List (Nat × Nat) := (runFold m m.length).2
theorem runFold_succ (m : List Bool) (n : Nat) : runFold m (n + 1) = runStep m (runFold m n) n := by
  unfold runFold
  rw [List.range_succ, List.foldl_append]; rfl
theorem runFold_len (m : List Bool) : ∀ n, (runFold m n).2.length ≤ n
  | 0 => Nat.le_refl _
  | n + 1 => by
    have ih := runFold_len m n
    rw [runFold_succ]
    unfold runStep
    dsimp only
    split
    · rw [List.length_append, List.length_singleton]
      omega
    · omega
theorem bl_at {m : List Bool} {j : Nat} (h : j < m.length) : atI (m.map V.bl) ((j : Nat) : Int) = some (.bl (m.getD j false)) := atI_nat (by
  rw [List.getElem?_map, List.getElem?_eq_getElem h, List.getD_eq_getElem?_getD, List.getElem?_eq_getElem h]; rfl)
theorem PL.sm {H H' : Hp} {e : Addr} {l : List (Nat × Nat)} (h : PL H e l) (s : Sm K H H') : PL H' e l := h.keep (fun _ z => s.at z) fun _ _ z => s.at z
/-- a statement by where it ends -/
theorem nx_use {t : TS} {D : Ends} {σ : L2.St} {H : Hp} (P : L2.St → Hp → Prop) (h : ∀ N : L2.St → Hp → Prop, (∀ σ' H', P σ' H' → N σ' H') → t { D with nx := N } σ H) (q : ∀ σ' H', P σ' H' → D.nx σ' H') : t D σ H := h D.nx q
def spRuns (K : PySem.W.Frag) : Sp := fun vs H Q E => ∃ (a : Addr) (m : List Bool), vs = [.ref a] ∧ SqL K H a (m.map V.bl) ∧ m.length ≤ 5000 ∧ ∀ H' L, Sm K H H' → H L = none → PL H' L (runsB m) → Q (.ref L) H'
theorem ok_find_runs (T : Txt K mg) : FnOk P w K mg base CX0 1 (ga K "find_runs") (fd K "find_runs") ["marked"] (spRuns K) := by
  refine T.d_find_runs.fn.ok sc_find_runs (fun vs H Q E h => by obtain ⟨_, _, rfl, _⟩ := h; rfl) fun cdv A outer s H vs Q E hr h => ?_
  refine ⟨_, (pss_cons (ps_set (i := 1) sc_find_runs.nd rfl (by first | exact Or.inl rfl | exact Or.inr rfl) (pe_lst pa_nil)) (pss_cons (ps_set (i := 2) sc_find_runs.nd rfl (by first | exact Or.inl rfl | exact Or.inr rfl) pe_int) (pss_cons (ps_for PassesOwn.never rfl (pi_enum (by rfl) T.n_enumerate (pa_cons (pv 0) pa_nil)) (pg_tup rfl (pgs_cons (pg_name (i := 3) sc_find_runs.nd rfl (by first | exact Or.inl rfl | exact Or.inr rfl)) (pgs_cons (pg_name (i := 4) sc_find_runs.nd rfl (by first | exact Or.inl rfl | exact Or.inr rfl)) pgs_nil))) (pss_cons (ps_if (PW.pt (pw_and (pt_val (pv 4)) (pw_and1 (PW.pt (pw_or (pt_cmpR op_eq (pv 3) pe_int (nomark _)) (pw_or1 (pt_not (pt_val (pe_ix ix_list (pv 0) (pe_op op_sub (pv 3) pe_int) (fun _ _ => rfl)))))))))) (pss_one (ps_set (i := 2) sc_find_runs.nd rfl (by first | exact Or.inl rfl | exact Or.inr rfl) (pv 3))) pss_nil) (pss_one (ps_if (PW.pt (pw_and (pt_val (pv 4)) (pw_and1 (PW.pt (pw_or (pt_cmpR op_eq (pe_op op_add (pv 3) pe_int) (pe_callB call_len (by rfl) T.n_len (by decide +kernel) (pa_cons (pv 0) pa_nil)) (nomark _)) (pw_or1 (pt_not (pt_val (pe_ix ix_list (pv 0) (pe_op op_add (pv 3) pe_int) (fun _ _ => rfl)))))))))) (pss_one (ps_expr (pe_bm PySem.F.plainAttrs_list PySem.F.slot_list_append PySem.F.type_list_append mt_append (pv 1) (pa_cons (pe_tup (pa_cons (pv 2) (pa_cons (pe_op op_add (pv 3) pe_int) pa_nil))) pa_nil)))) pss_nil)))) (pss_one (ps_ret (pv 1)))))), ?_⟩
  obtain ⟨a, m, rfl, hS, hm, q⟩ := h
  refine ⟨by show 0 ≤ sizeLine; decide, fun r hr0 => ?_⟩
  have hs0 := Sm.new (K := K) (o := .lst []) hr0
  refine ⟨_, rfl, a, _, rfl, hs0.l hS, for_it walk_enum (fun i σ H' => Sm K H H' ∧ (∃ o1 o2, σ = [some (.ref a), some (.ref r), some (.int ((runFold m i).1 : Nat)), o1, o2]) ∧ PL H' r (runFold m i).2) ⟨hs0, ⟨_, _, rfl⟩, [], upd_same, rfl, fun i x h => by cases h⟩ (fun i σ H' _ z => z.1.l hS) ?_ ?_⟩
  · rintro i x σ H1 H2 hi ⟨hs, ⟨o1, o2, rfl⟩, hp⟩ ⟨t, x1, x2, rfl, ht, rfl, e1, e2⟩
    rw [List.length_map] at hi
    cases e1
    have e3 : x2 = .bl (m.getD i false) := by
      have z := bl_at hi
      rw [atI_nat e2] at z
      exact Option.some.inj z
    subst e3
    have hs2 := hs.trans (Sm.new (o := .tup [.int (i : Nat), .bl (m.getD i false)]) ht)
    have hS2 := hs2.l hS
    have hp2 := PL.sm hp (Sm.new (K := K) (o := .tup [.int (i : Nat), .bl (m.getD i false)]) ht)
    refine ⟨t, _, rfl, SqT.of upd_same, rfl, _, _, rfl, _, _, rfl, rfl, ?_⟩
    generalize upd H1 t (.tup [.int (i : Nat), .bl (m.getD i false)]) = H2 at hs2 hS2 hp2
    dsimp only [tSeq, gName]
    have e4 := runFold_succ m i
    unfold runStep at e4
    dsimp only at e4
    refine nx_use (P := fun σ' H' => H' = H2 ∧ σ' = [some (.ref a), some (.ref r), some (.int ((runFold m (i + 1)).1 : Nat)), some (.int (i : Nat)), some (.bl (m.getD i false))]) (fun N hN => ?_) ?_
    · refine if_use (b := m.getD i false && (decide (i = 0) || !m.getD (i - 1) false)) (P := fun H' => H' = H2) (fun Q' q' => ?_) ?_
      · have q' := q' _ rfl
        refine ⟨_, rfl, _, rfl, ite2 (fun h1 => ?_) fun h1 => ?_⟩
        · rw [h1, Bool.true_and] at q'
          refine ⟨_, rfl, rfl, _, rfl, ite2 (fun h2 => ?_) fun h2 => ?_⟩
          · have i0 : i = 0 := by
              simp at h2
              omega
            rw [decide_eq_true i0, Bool.true_or] at q'
            exact q'
          · have i0 : ¬ i = 0 := by
              simp at h2
              omega
            rw [decide_eq_false i0, Bool.false_or] at q'
            exact ⟨_, rfl, _, rfl, _, _, rfl, rfl, a, _, _, V.bl (m.getD (i - 1) false), rfl, rfl, hS2, by rw [show (i : Int) - 1 = ((i - 1 : Nat) : Int) by omega]; exact bl_at (by omega), _, rfl, q'⟩
        · have h1 : m.getD i false = false := by simpa using h1
          rw [h1, Bool.false_and] at q'
          exact q'
      · rintro H3 rfl
        refine ite2 (fun h1 => ?_) fun h1 => ?_
        · refine ⟨_, rfl, hN _ _ ⟨rfl, ?_⟩⟩
          rw [e4, if_pos h1]
          rfl
        · refine hN _ _ ⟨rfl, ?_⟩
          rw [e4, if_neg h1]
          rfl
    rintro σ' H3 ⟨rfl, rfl⟩
    obtain ⟨ts, hl, hl2, hl3⟩ := id hp2
    dsimp only
    refine if_use (b := m.getD i false && (decide (i + 1 = m.length) || !m.getD (i + 1) false)) (P := fun H' => H' = H3) (fun Q' q' => ?_) ?_
    · have q' := q' _ rfl
      refine ⟨_, rfl, _, rfl, ite2 (fun h1 => ?_) fun h1 => ?_⟩
      · rw [h1, Bool.true_and] at q'
        refine ⟨_, rfl, _, _, rfl, rfl, _, rfl, _, _, rfl, len_l hS2, rfl, _, rfl, ite2 (fun h2 => ?_) fun h2 => ?_⟩
        · have i0 : i + 1 = m.length := by
            simp at h2
            omega
          rw [decide_eq_true i0, Bool.true_or] at q'
          exact q'
        · have i0 : ¬ i + 1 = m.length := by
            simp at h2
            omega
          rw [decide_eq_false i0, Bool.false_or] at q'
          exact ⟨_, rfl, _, rfl, _, _, rfl, rfl, a, _, _, V.bl (m.getD (i + 1) false), rfl, rfl, hS2, by rw [show (i : Int) + 1 = ((i + 1 : Nat) : Int) by omega]; exact bl_at (by omega), _, rfl, q'⟩
      · have h1 : m.getD i false = false := by simpa using h1
        rw [h1, Bool.false_and] at q'
        exact q'
    rintro H4 rfl
    refine ite2 (fun h1 => ?_) fun h1 => ?_
    · refine ⟨_, rfl, .inl ⟨rfl, _, SqL.of hl⟩, _, rfl, _, rfl, _, _, rfl, rfl, by show 2 ≤ sizeLine; decide, fun u hu => ?_⟩
      have hlw := (Sm.new (K := K) (o := tup2 ((runFold m (i + 1)).1, i + 1)) hu).at hl
      refine ⟨_, _, _, rfl, rfl, hlw, ?_, ?_⟩
      · have := runFold_len m i
        rw [List.length_map, hl2]
        exact Nat.lt_of_lt_of_le (show (runFold m i).2.length < 5001 by omega) (by decide)
      · refine ⟨(hs2.trans (.new hu)).mut hr0 hlw trivial, ⟨_, _, rfl⟩, ?_⟩
        rw [e4, if_pos h1] at *
        exact PL.snoc (hp2.sm (.new (K := K) hu)) hlw upd_same
    · refine ⟨hs2, ⟨_, _, rfl⟩, ?_⟩
      rw [e4, if_neg h1]
      exact hp2
  · rintro σ H1 ⟨hs, ⟨o1, o2, rfl⟩, hp⟩
    rw [List.length_map] at hp
    exact ⟨_, rfl, q _ _ hs hr0 hp⟩
end Tc
namespace Tl
open PySem L2 PySem.Spec PyProof.Rows
/-! ### rules by a part of the written text that is named (for a comprehension's block) -/
section
variable {X : Cx} {K : PySem.W.Frag}
theorem ixL (e : X.K = K) : IxR X (rIxL K) := e ▸ ix_list
theorem ixT (e : X.K = K) : IxR X (rIxT K) := e ▸ ix_tup
theorem slL (e : X.K = K) : SlR X (rSlL K) := e ▸ sl_list
theorem lenB (e : X.K = K) : CallR X (.builtin "len") (fun xs H Q => ∃ x n, xs = [x] ∧ LenV K x H n ∧ Q (.int n) H) := e ▸ call_len
theorem inS (e : X.K = K) : OpR X (compareOp .In) (rIn K false) := e ▸ op_in_seq
theorem notInS (e : X.K = K) : OpR X (compareOp .NotIn) (rIn K true) := e ▸ op_notIn_seq
theorem pgT {es : List Expr} {k : Nat} {t : TGs} {n : Nat} {pos : Pos} (e : X.K = K) (hc : X.calm = true) (h : PGs X es t)
    (hn : (assignEach es X.env).length = n := by rfl) (hst : (assignEach es X.env).findIdx? (·.1) = none := by rfl) : PG X (.Tuple es k pos) (gTup K n t) := e ▸ pg_tup hc h hn hst
end
end Tl
namespace Tc
open PySem L2 PySem.Spec PyProof.Rows Fh FhCheck
variable {K : PySem.W.Frag} {mg : Str → Option Value} {base : Heap} {P : Program} {w : World}
/-! ### rows -/
section
variable {H : Hp} {x C d e : Addr} {fs : List (Str × V)} {o : HO} {xs : List V} {l : List (Nat × Nat)}
theorem at_ins (h : H e = some (.lst xs)) (hx : H x = some (.ins C d fs)) : upd H x o e = some (.lst xs) := by
  rw [upd_ne (ne_of h hx fun z => by cases z)]
  exact h
theorem PL.ins (h : PL H e l) (hx : H x = some (.ins C d fs)) : PL (upd H x o) e l := h.keep (fun _ z => at_ins z hx) fun _ _ z => by
  rw [upd_ne (ne_of z hx fun y => by cases y)]
  exact z
end
abbrev Pc : Type := Nat × Nat
def pcAt (l : List Pc) (i : Nat) : Pc := l.getD i (1, 0)
theorem pcAt_eq {l : List Pc} {i : Nat} {x : Pc} (h : l[i]? = some x) : pcAt l i = x := by
  unfold pcAt
  rw [List.getD_eq_getElem?_getD, h]
  rfl
def placesN (l : List Pc) (n : Nat) : List Nat := (List.range n).filter fun i => decide ((pcAt l i).1 = 0)
/-- the characters' places -/
def placesL (l : List Pc) : List Nat := placesN l l.length
theorem placesN_succ (l : List Pc) (n : Nat) : placesN l (n + 1) = placesN l n ++ if (pcAt l n).1 = 0 then [n] else [] := by
  unfold placesN
  rw [List.range_succ, List.filter_append]
  by_cases h : (pcAt l n).1 = 0 <;> simp [h]
theorem placesN_len (l : List Pc) (n : Nat) : (placesN l n).length ≤ n := by
  unfold placesN
  have := List.length_filter_le (fun i => decide ((pcAt l i).1 = 0)) (List.range n)
  rw [List.length_range] at this
  exact this
theorem placesL_lt {l : List Pc} {p : Nat} (h : p ∈ placesL l) : p < l.length := by
  unfold placesL placesN at h
  exact List.mem_range.mp (List.mem_filter.mp h).1
/-- the characters -/
def charsL (l : List Pc) : List Nat := (placesL l).map fun p => (pcAt l p).2
def markOf (x : Pc) : Bool := decide (x.1 = 0) && isWordChar x.2
/-- the words -/
def wordsP (l : List Pc) : List (Nat × Nat) := runsB (l.map markOf)
def rowF (pa pl ca wa : Addr) : List (Str × V) := [("pieces", .ref pa), ("places", .ref pl), ("characters", .ref ca), ("words", .ref wa)]
/-- a row at r -/
structure RowAt (K : PySem.W.Frag) (H : Hp) (r : Addr) (l : List Pc) : Prop where
  ex : ∃ dx pa pl ca wa, H r = some (.ins (ga K "Row") dx (rowF pa pl ca wa)) ∧ PL H pa l ∧ H pl = some (.lst (nv (placesL l))) ∧ H ca = some (.lst (nv (charsL l))) ∧ PL H wa (wordsP l)
theorem RowAt.sm {H H' : Hp} {r : Addr} {l : List Pc} (h : RowAt K H r l) (s : Sm K H H') : RowAt K H' r l := by
  obtain ⟨dx, pa, pl, ca, wa, h1, h2, h3, h4, h5⟩ := h.ex
  exact ⟨dx, pa, pl, ca, wa, s.at h1, h2.sm s, s.at h3, s.at h4, h5.sm s⟩
theorem PL.get {H : Hp} {e : Addr} {l : List (Nat × Nat)} {ts : List Addr} (h : PL H e l) (he : H e = some (.lst (ts.map V.ref))) {i : Nat} (hi : i < l.length) : ∃ t, ts[i]? = some t ∧ T2 H t (pcAt l i) := by
  obtain ⟨ts', h1, h2, h3⟩ := h
  rw [he] at h1
  have e1 : ts = ts' := by
    injection h1 with h1
    injection h1 with h1
    exact (List.map_inj_right fun a b z => by injection z).mp h1
  subst e1
  obtain ⟨x, hx⟩ := lt_some hi
  rw [pcAt_eq hx]
  exact h3 i x hx
theorem PL.copy {H : Hp} {e pa : Addr} {l : List (Nat × Nat)} {ts : List Addr} (h : PL H e l) (he : H e = some (.lst (ts.map V.ref))) (hn : H pa = none) : PL (upd H pa (.lst (ts.map V.ref))) pa l := by
  obtain ⟨ts', h1, h2, h3⟩ := h
  rw [he] at h1
  have e1 : ts = ts' := by
    injection h1 with h1
    injection h1 with h1
    exact (List.map_inj_right fun a b z => by injection z).mp h1
  subst e1
  refine ⟨ts, upd_same, h2, fun i x hx => ?_⟩
  obtain ⟨t, a, b⟩ := h3 i x hx
  exact ⟨t, a, by rw [upd_ne (ne_of_none b hn)]; exact b⟩
theorem nv_snoc (l : List Nat) (n : Nat) : nv (l ++ [n]) = nv l ++ [.int (n : Nat)] := by
  unfold nv
  rw [List.map_append]
  rfl
theorem small {n : Nat} (h : n < 6000) : n < sizeLine := Nat.lt_of_lt_of_le h (by decide)
/-- a row whose lists were free in H0 -/
def RowFr (K : PySem.W.Frag) (H0 H : Hp) (r : Addr) (l : List Pc) : Prop := ∃ dx pa pl ca wa, H r = some (.ins (ga K "Row") dx (rowF pa pl ca wa)) ∧ PL H pa l ∧ H pl = some (.lst (nv (placesL l))) ∧ H ca = some (.lst (nv (charsL l))) ∧ PL H wa (wordsP l) ∧ ∀ y ∈ [pa, pl, ca, wa], H0 y = none
theorem RowFr.at {H0 H : Hp} {r : Addr} {l : List Pc} (h : RowFr K H0 H r l) : RowAt K H r l := by
  obtain ⟨dx, pa, pl, ca, wa, h1, h2, h3, h4, h5, _⟩ := h
  exact ⟨dx, pa, pl, ca, wa, h1, h2, h3, h4, h5⟩
theorem RowFr.from {H00 H0 H : Hp} {r : Addr} {l : List Pc} (h : RowFr K H0 H r l) (f : ∀ b, H0 b = none → H00 b = none) : RowFr K H00 H r l := by
  obtain ⟨dx, pa, pl, ca, wa, h1, h2, h3, h4, h5, h6⟩ := h
  exact ⟨dx, pa, pl, ca, wa, h1, h2, h3, h4, h5, fun y hy => f y (h6 y hy)⟩
theorem RowFr.sm {H0 H H' : Hp} {r : Addr} {l : List Pc} (h : RowFr K H0 H r l) (s : Sm K H H') : RowFr K H0 H' r l := by
  obtain ⟨dx, pa, pl, ca, wa, h1, h2, h3, h4, h5, h6⟩ := h
  exact ⟨dx, pa, pl, ca, wa, s.at h1, h2.sm s, s.at h3, s.at h4, h5.sm s, h6⟩
def spRowI (K : PySem.W.Frag) : Sp := fun vs H Q E => ∃ x dx e : Addr, ∃ l : List Pc, vs = [.ref x, .ref e] ∧ H x = some (.ins (ga K "Row") dx []) ∧ PL H e l ∧ l.length ≤ 4096 ∧ ∀ H', Fr K [x] H H' → RowFr K H H' x l → Q .non H'
theorem ok_Row_init (T : Txt K mg) : FnOk P w K mg base CX0 3 (ma K "Row" "__init__") (fdA K (ma K "Row" "__init__")) ["self", "pieces"] (spRowI K) := by
  refine T.d_Row_init.fn.ok sc_Row_init (fun vs H Q E h => by obtain ⟨_, _, _, _, rfl, _⟩ := h; rfl) fun cdv A outer s H vs Q E hr h => ?_
  refine ⟨_, (pss_cons (ps_fld (pv 0) (pe_callTy call_list_of (by rfl) T.n_list (by decide +kernel) (pa_cons (pv 1) pa_nil)) rfl) (pss_cons (ps_fld (pv 0) (pe_lc rfl sc_Row_init.nd (pi_enum (by rfl) T.n_enumerate (pa_cons (pv 1) pa_nil)) (blkOk_by (own := [("place", 2), ("piece", 3)]) (by show blkC ["self","pieces","place","piece"] (defScope s_Row_init) _ _ = true; decide +kernel)) (fun _ _ _ _ _ => by exact (Tl.pgT (K := K) (n := 2) rfl rfl (pgs_cons (pg_name (i := 2) sc_Row_init.nd rfl (by first | exact Or.inl rfl | exact Or.inr rfl)) (pgs_cons (pg_name (i := 3) sc_Row_init.nd rfl (by first | exact Or.inl rfl | exact Or.inr rfl)) pgs_nil)))) (fun _ _ _ _ _ => by exact (pts_one (pt_cmpR op_eq (pe_ix (Tl.ixT (K := K) rfl) (pv 3) pe_int (fun _ _ => rfl)) (pe_gi rfl T.i_CHARACTER) (nomark _)))) (fun _ _ _ _ _ => by exact (pv 2))) rfl) (pss_cons (ps_fld (pv 0) (pe_lc rfl sc_Row_init.nd (pi_list (pe_fld (pv 0) rfl)) (blkOk_by (own := [("place", 2)]) (by show blkC ["self","pieces","place","piece"] (defScope s_Row_init) _ _ = true; decide +kernel)) (fun _ _ _ _ _ => by exact (pg_name (i := 2) sc_Row_init.nd rfl (by first | exact Or.inl rfl | exact Or.inr rfl))) (fun _ _ _ _ _ => by exact pts_nil) (fun _ _ _ _ _ => by exact (pe_ix (Tl.ixT (K := K) rfl) (pe_ix (Tl.ixL (K := K) rfl) (pv 1) (pv 2) (fun _ _ => rfl)) pe_int (fun _ _ => rfl)))) rfl) (pss_one (ps_fld (pv 0) (pe_call (ok_find_runs T) (hr.mono (by decide)) rfl T.d_find_runs.g T.d_find_runs.k T.d_find_runs.b .nil pass0 (pa_cons (pe_lc rfl sc_Row_init.nd (pi_list (pv 1)) (blkOk_by (own := [("piece", 3)]) (by show blkC ["self","pieces","place","piece"] (defScope s_Row_init) _ _ = true; decide +kernel)) (fun _ _ _ _ _ => by exact (pg_name (i := 3) sc_Row_init.nd rfl (by first | exact Or.inl rfl | exact Or.inr rfl))) (fun _ _ _ _ _ => by exact pts_nil) (fun _ _ _ _ _ => by exact (pe_and (pe_cmpR op_eq (pe_ix (Tl.ixT (K := K) rfl) (pv 3) pe_int (fun _ _ => rfl)) (pe_gi rfl T.i_CHARACTER) (nomark _)) (pe_one (pe_call (ok_is_of_word T) (hr.mono (by decide)) rfl T.d_is_of_word.g T.d_is_of_word.k T.d_is_of_word.b .nil pass0 (pa_cons (pe_ix (Tl.ixT (K := K) rfl) (pv 3) pe_int (fun _ _ => rfl)) pa_nil)))))) pa_nil)) rfl))))), ?_⟩
  obtain ⟨x, dx, e, l, rfl, hx, hP, hl, q⟩ := h
  obtain ⟨ts, he, ht2, ht3⟩ := id hP
  have hxm : x ∈ [x] := List.mem_singleton.mpr rfl
  -- the pieces
  refine ⟨_, rfl, e, _, rfl, .inl (SqL.of he), fun pa hpa => ⟨_, rfl, x, _, _, _, rfl, (Sm.new (K := K) hpa).at hx, T.c_Row.cl, T.na_Row_pieces, by show 0 < 1000; decide, ?_⟩⟩
  have s1 := Sm.new (K := K) (o := .lst (ts.map V.ref)) hpa
  have hx1 := s1.at hx
  have fr1 : Fr K [x] H (upd (upd H pa (.lst (ts.map V.ref))) x (.ins (ga K "Row") dx (putF "pieces" (.ref pa) []))) := s1.fr.trans (Fr.mut hx1 trivial hxm)
  have pp1 := (hP.copy he hpa).ins (o := .ins (ga K "Row") dx (putF "pieces" (.ref pa) [])) hx1
  have pe1 := (hP.sm s1).ins (o := .ins (ga K "Row") dx (putF "pieces" (.ref pa) [])) hx1
  have he1 := at_ins (o := .ins (ga K "Row") dx (putF "pieces" (.ref pa) [])) (s1.at he) hx1
  have hx1 : upd (upd H pa (.lst (ts.map V.ref))) x (.ins (ga K "Row") dx (putF "pieces" (.ref pa) [])) x = _ := upd_same
  generalize upd (upd H pa (.lst (ts.map V.ref))) x (.ins (ga K "Row") dx (putF "pieces" (.ref pa) [])) = H1 at hx1 fr1 pp1 pe1 he1
  -- the places
  refine ⟨_, rfl, e, _, rfl, SqL.of he1, fun pl hpl => lc_it walk_enum (fun i H' => Sm K H1 H' ∧ H' pl = some (.lst (nv (placesN l i)))) ⟨.new hpl, upd_same⟩ (fun i H' _ z => z.1.l (SqL.of he1)) ?_ ?_⟩
  · rintro i y H2 H3 hi ⟨hs, hD⟩ ⟨t, x1, x2, rfl, ht, rfl, e1, e2⟩
    rw [List.length_map, ht2] at hi
    cases e1
    obtain ⟨tp, htp, hT2⟩ := PL.get pe1 he1 hi
    dsimp only at e2
    rw [List.getElem?_map, htp] at e2
    cases e2
    refine ⟨t, _, rfl, SqT.of upd_same, rfl, _, _, rfl, _, _, rfl, rfl, rfl, ?_⟩
    have hs := hs.trans (Sm.new (o := .tup [.int (i : Nat), .ref tp]) ht)
    have hD := (Sm.new (K := K) (o := .tup [.int (i : Nat), .ref tp]) ht).at hD
    refine ⟨_, rfl, tp, _, _, _, rfl, rfl, SqT.of (hs.at hT2), rfl, rfl, _, rfl, ite2 (fun h1 => ?_) fun h1 => ?_⟩
    · have h1 : (pcAt l i).1 = 0 := by
        simp at h1
        omega
      refine ⟨_, rfl, _, hD, ?_, hs.mut hpl hD trivial, upd_same.trans ?_⟩
      · have := placesN_len l i
        unfold nv
        rw [List.length_map]
        exact small (by omega)
      · rw [placesN_succ, if_pos h1, nv_snoc]
    · have h1 : ¬ (pcAt l i).1 = 0 := by
        simp at h1
        omega
      refine ⟨hs, ?_⟩
      rw [placesN_succ, if_neg h1, List.append_nil]
      exact hD
  rintro H2 ⟨s2, hl2⟩
  have npl := fr1.f _ hpl
  rw [List.length_map, ht2] at hl2
  have hl2 : H2 pl = some (.lst (nv (placesL l))) := hl2
  have hx2 := s2.at hx1
  refine ⟨_, rfl, x, _, _, _, rfl, hx2, T.c_Row.cl, T.na_Row_places, by show 1 < 1000; decide, ?_⟩
  have fr2 := fr1.trans (s2.fr.trans (Fr.mut (o := .ins (ga K "Row") dx [("pieces", .ref pa), ("places", .ref pl)]) hx2 trivial hxm))
  have pp2 := (pp1.sm s2).ins (o := .ins (ga K "Row") dx [("pieces", .ref pa), ("places", .ref pl)]) hx2
  have pe2 := (pe1.sm s2).ins (o := .ins (ga K "Row") dx [("pieces", .ref pa), ("places", .ref pl)]) hx2
  have he2 := at_ins (o := .ins (ga K "Row") dx [("pieces", .ref pa), ("places", .ref pl)]) (s2.at he1) hx2
  have hl2 := at_ins (o := .ins (ga K "Row") dx [("pieces", .ref pa), ("places", .ref pl)]) hl2 hx2
  have hx2 : upd H2 x (.ins (ga K "Row") dx [("pieces", .ref pa), ("places", .ref pl)]) x = _ := upd_same
  show tSeq _ _ _ _ (upd H2 x (.ins (ga K "Row") dx [("pieces", .ref pa), ("places", .ref pl)]))
  generalize upd H2 x (.ins (ga K "Row") dx [("pieces", .ref pa), ("places", .ref pl)]) = H3 at hx2 fr2 pp2 pe2 he2 hl2
  -- the characters
  refine ⟨_, rfl, _, _, _, _, _, rfl, hx2, T.c_Row.cl, T.na_Row_places, rfl, _, rfl, ⟨_, SqL.of hl2⟩, fun ca hca => lc_it walk_list (fun i H' => Sm K H3 H' ∧ H' ca = some (.lst (nv (((placesL l).take i).map fun p => (pcAt l p).2)))) ⟨.new hca, upd_same⟩ (fun i H' _ z => z.1.l (SqL.of hl2)) ?_ ?_⟩
  · rintro i y H4 H5 hi ⟨hs, hD⟩ ⟨rfl, e2⟩
    unfold nv at hi e2
    rw [List.length_map] at hi
    rw [List.getElem?_map] at e2
    obtain ⟨p, hp, rfl⟩ := Option.map_eq_some_iff.mp e2
    have hlt : p < l.length := placesL_lt (List.mem_of_getElem? hp)
    obtain ⟨tp, htp, hT2⟩ := PL.get pe2 he2 hlt
    refine ⟨rfl, ?_⟩
    dsimp only [tYes]
    refine iteT ?_
    refine ⟨_, rfl, _, rfl, _, _, _, V.ref tp, rfl, rfl, SqL.of (hs.at he2), atI_nat (by rw [List.getElem?_map, htp]; rfl), tp, _, _, _, rfl, rfl, SqT.of (hs.at hT2), rfl, _, hD, ?_, hs.mut hca hD trivial, upd_same.trans ?_⟩
    · have h1 := placesN_len l l.length
      have h2 : i < (placesN l l.length).length := hi
      unfold nv
      rw [List.length_map, List.length_map, List.length_take]
      exact small (by omega)
    · rw [List.take_add_one, hp, List.map_append, ← nv_snoc]
      rfl
  rintro H4 ⟨s3, hl3⟩
  have nca := fr2.f _ hca
  have hl3 : H4 ca = some (.lst (nv (charsL l))) := by
    unfold nv at hl3
    rw [List.length_map, List.take_length] at hl3
    exact hl3
  have hx3 := s3.at hx2
  refine ⟨_, rfl, x, _, _, _, rfl, hx3, T.c_Row.cl, T.na_Row_characters, by show 2 < 1000; decide, ?_⟩
  have fr3 := fr2.trans (s3.fr.trans (Fr.mut (o := .ins (ga K "Row") dx [("pieces", .ref pa), ("places", .ref pl), ("characters", .ref ca)]) hx3 trivial hxm))
  have pp3 := (pp2.sm s3).ins (o := .ins (ga K "Row") dx [("pieces", .ref pa), ("places", .ref pl), ("characters", .ref ca)]) hx3
  have pe3 := (pe2.sm s3).ins (o := .ins (ga K "Row") dx [("pieces", .ref pa), ("places", .ref pl), ("characters", .ref ca)]) hx3
  have he3 := at_ins (o := .ins (ga K "Row") dx [("pieces", .ref pa), ("places", .ref pl), ("characters", .ref ca)]) (s3.at he2) hx3
  have hl2 := at_ins (o := .ins (ga K "Row") dx [("pieces", .ref pa), ("places", .ref pl), ("characters", .ref ca)]) (s3.at hl2) hx3
  have hl3 := at_ins (o := .ins (ga K "Row") dx [("pieces", .ref pa), ("places", .ref pl), ("characters", .ref ca)]) hl3 hx3
  have hx3 : upd H4 x (.ins (ga K "Row") dx [("pieces", .ref pa), ("places", .ref pl), ("characters", .ref ca)]) x = _ := upd_same
  dsimp only
  show sFld _ _ _ _ _ _ (upd H4 x (.ins (ga K "Row") dx [("pieces", .ref pa), ("places", .ref pl), ("characters", .ref ca)]))
  generalize upd H4 x (.ins (ga K "Row") dx [("pieces", .ref pa), ("places", .ref pl), ("characters", .ref ca)]) = H5 at hx3 fr3 pp3 pe3 he3 hl2 hl3
  -- the words
  refine ⟨_, rfl, _, rfl, ⟨_, SqL.of he3⟩, fun ma hma => lc_it walk_list (fun i H' => Sm K H5 H' ∧ H' ma = some (.lst (((l.map markOf).take i).map V.bl))) ⟨.new hma, upd_same⟩ (fun i H' _ z => z.1.l (SqL.of he3)) ?_ ?_⟩
  · rintro i y H6 H7 hi ⟨hs, hD⟩ ⟨rfl, e2⟩
    rw [List.length_map, ht2] at hi
    obtain ⟨tp, htp, hT2⟩ := PL.get pe3 he3 hi
    rw [List.getElem?_map, htp] at e2
    cases e2
    have hT2 := hs.at hT2
    obtain ⟨z, hz⟩ := lt_some hi
    have ez : (l.map markOf)[i]? = some (markOf (pcAt l i)) := by rw [List.getElem?_map, pcAt_eq hz, hz]; rfl
    have fin : ∃ acc, H7 ma = some (.lst acc) ∧ acc.length < sizeLine ∧ Sm K H5 (upd H7 ma (.lst (acc ++ [V.bl (markOf (pcAt l i))]))) ∧ upd H7 ma (.lst (acc ++ [V.bl (markOf (pcAt l i))])) ma = some (.lst (((l.map markOf).take (i + 1)).map V.bl)) := by
      refine ⟨_, hD, ?_, hs.mut hma hD trivial, upd_same.trans ?_⟩
      · rw [List.length_map, List.length_take]
        exact small (by omega)
      · rw [List.take_add_one, ez, List.map_append]
        rfl
    refine ⟨rfl, ?_⟩
    dsimp only [tYes]
    refine iteT ?_
    refine ⟨_, rfl, tp, _, _, _, rfl, rfl, SqT.of hT2, rfl, rfl, _, rfl, ite2 (fun h1 => ?_) fun h1 => ?_⟩
    · have h1 : (pcAt l i).1 = 0 := by
        simp at h1
        omega
      refine ⟨_, rfl, tp, _, _, _, rfl, rfl, SqT.of hT2, rfl, (pcAt l i).2, rfl, ?_⟩
      rw [show markOf (pcAt l i) = isWordChar (pcAt l i).2 by rw [markOf, decide_eq_true h1, Bool.true_and]] at fin
      exact fin
    · have h1 : ¬ (pcAt l i).1 = 0 := by
        simp at h1
        omega
      rw [show markOf (pcAt l i) = false by rw [markOf, decide_eq_false h1, Bool.false_and]] at fin
      exact fin
  rintro H6 ⟨s4, hl4⟩
  rw [List.length_map, ht2, List.take_of_length_le (by rw [List.length_map]; omega)] at hl4
  refine ⟨ma, l.map markOf, rfl, SqL.of hl4, by rw [List.length_map]; omega, fun H7 wa s5 nw hw => ?_⟩
  have nw := fr3.f _ (s4.f _ nw)
  have s5 := s4.trans s5
  have hx4 := s5.at hx3
  refine ⟨_, rfl, x, _, _, _, rfl, hx4, T.c_Row.cl, T.na_Row_words, by show 3 < 1000; decide, ?_⟩
  exact q _ (fr3.trans (s5.fr.trans (Fr.mut hx4 trivial hxm))) ⟨dx, pa, pl, ca, wa, upd_same, (pp3.sm s5).ins hx4, at_ins (s5.at hl2) hx4, at_ins (s5.at hl3) hx4, hw.ins hx4, fun y hy => by
    simp only [List.mem_cons, List.not_mem_nil, or_false] at hy
    rcases hy with rfl | rfl | rfl | rfl
    · exact hpa
    · exact npl
    · exact nca
    · exact nw⟩
end Tc
namespace Tc
open PySem L2 PySem.Spec PyProof.Rows Fh FhCheck
variable {K : PySem.W.Frag} {mg : Str → Option Value} {base : Heap} {P : Program} {w : World}
/-! ### where a reader ends -/
theorem rcGo_end {W : Nat → Nat → Bool} {least : Nat} : ∀ {n low k : Nat} {r : Bytes} {x : Nat × Nat}, rcGo W least n low k r = .ok x → k < x.2
  | 0, low, k, r, x, h => by
    unfold rcGo at h
    split at h
    · cases h
    · cases h
      exact Nat.lt_succ_self _
  | n + 1, low, k, r, x, h => by
    unfold rcGo at h
    split at h
    · cases h
    · split at h
      · cases h
      · split at h
        · exact Nat.lt_of_succ_lt (rcGo_end h)
        · cases h
theorem rAny_end {b : Bytes} {p : Nat} {x : Nat × Nat} (h : rAny b p = .ok x) : p < x.2 := by
  unfold rAny rChar at h
  split at h
  · cases h
  · obtain ⟨y, hy, h⟩ := bind_ok h
    revert h
    cases hg : rcGo someChar y.2.2 y.1 (y.2.1 * 64 ^ y.1) 0 (by assumption) with
    | error e => intro h; cases h
    | ok z =>
      intro h
      cases h
      have := rcGo_end hg
      show p < p + z.2
      omega
theorem rnGo_end {lo hi : Nat} : ∀ {r : Bytes} {k v : Nat} {x : Nat × Nat}, rnGo lo hi r k v = .ok x → k ≤ x.2
  | [], k, v, x, h => by
    unfold rnGo at h
    split at h
    · cases h
    · cases h
      exact Nat.le_refl _
  | c :: r, k, v, x, h => by
    unfold rnGo at h
    split at h
    · split at h
      · cases h
      · exact Nat.le_of_succ_le (rnGo_end h)
    · split at h
      · cases h
      · cases h
        exact Nat.le_refl _
theorem rNum_end {b : Bytes} {p lo hi : Nat} {x : Nat × Nat} (h : rNum b p lo hi = .ok x) : p ≤ x.2 := by
  unfold rNum at h
  cases hg : rnGo lo hi (b.drop p) 0 0 with
  | error e => rw [hg] at h; cases h
  | ok z =>
    rw [hg] at h
    cases h
    show p ≤ p + z.2
    omega
theorem rWord_end {b w : Bytes} {p q : Nat} (h : rWord b p w = .ok q) : q = p + w.length := by
  unfold rWord at h
  split at h
  · cases h
    rfl
  · cases h
theorem rPiece_end {b : Bytes} {p : Nat} {x : Pc × Nat} (h : rPiece b p = .ok x) : p < x.2 := by
  unfold rPiece at h
  obtain ⟨y, hy, h⟩ := bind_ok h
  have h1 := rAny_end hy
  split at h
  · unfold rTag at h
    split at h
    · cases h
    · split at h
      · cases h
        show p < y.2 + 1
        omega
      · split at h
        · cases h
        · obtain ⟨z, hz, h⟩ := bind_ok h
          obtain ⟨q, hq, h⟩ := bind_ok h
          cases h
          have h2 := rNum_end hz
          have h3 := rWord_end hq
          show p < q
          omega
  · cases h
    exact h1
/-- read_pieces -/
def rPcs (b : Bytes) : Nat → List Pc → Nat → R (List Pc × Nat)
  | 0, l, p => .ok (l, p)
  | n + 1, l, p => if p < b.length ∧ b[p]? ≠ some 10 then (if l.length = 4096 then .error p else (rPiece b p).bind fun x => rPcs b n (l ++ [x.1]) x.2) else .ok (l, p)
def rPieces (b : Bytes) (p : Nat) : R (List Pc × Nat) := rPcs b (b.length - p) [] p
def spPieces (K : PySem.W.Frag) : Sp := fun vs H Q E => ∃ (a : Addr) (b : Bytes) (p : Nat), vs = [.ref a, .int p] ∧ SqL K H a (bv b) ∧ TagK K H ∧
  Res K (rPieces b p) H E fun x H' => ∀ t r, RowFr K H H' r x.1 → H' t = some (.tup [.ref r, .int (x.2 : Nat)]) → Q (.ref t) H'
theorem T2.sm {H H' : Hp} {t : Addr} {x : Nat × Nat} (h : T2 H t x) (s : Sm K H H') : T2 H' t x := s.at h
def invPcs (K : PySem.W.Frag) (b : Bytes) (a pl : Addr) (p0 : Nat) (H : Hp) (E : XK) (G : List Pc × Nat → Hp → Prop) (m : Nat) (σ : L2.St) (Hc : Hp) : Prop :=
  ∃ (l : List Pc) (p n : Nat) (o : Option V), m = b.length - p ∧ σ = [some (.ref a), some (.int p0), some (.ref pl), some (.int (p : Nat)), o] ∧ Sm K H Hc ∧ PL Hc pl l ∧ l.length ≤ 4096 ∧ b.length ≤ p + n ∧ Res K (rPcs b n l p) H E G
theorem ok_read_pieces (T : Txt K mg) : FnOk P w K mg base (L2N.CX P w) 8 (ga K "read_pieces") (fd K "read_pieces") ["data", "start"] (spPieces K) := by
  refine okN T.d_read_pieces.fn sc_read_pieces (fun vs H Q E h => by obtain ⟨_, _, _, rfl, _⟩ := h; rfl) fun cdv A outer s H vs Q E hcd hr h => ?_
  refine ⟨_, (pss_cons (ps_set (i := 2) sc_read_pieces.nd rfl (by first | exact Or.inl rfl | exact Or.inr rfl) (pe_lst pa_nil)) (pss_cons (ps_set (i := 3) sc_read_pieces.nd rfl (by first | exact Or.inl rfl | exact Or.inr rfl) (pv 1)) (pss_cons (ps_while PassesOwn.leaving (PW.pt (pw_and (pt_cmpR op_lt (pv 3) (pe_callB call_len (by rfl) T.n_len (by decide +kernel) (pa_cons (pv 0) pa_nil)) (nomark _)) (pw_and1 (pt_cmpR op_ne (pe_ix ix_list (pv 0) (pv 3) (fun _ _ => rfl)) (pe_gi rfl T.i_LINE_END) (nomark _))))) (pss_cons (ps_if (pt_cmpR op_eq (pe_callB call_len (by rfl) T.n_len (by decide +kernel) (pa_cons (pv 2) pa_nil)) (pe_gi rfl T.i_MOST_PIECES) (nomark _)) (pss_one (L2N.ps_raise rfl tkN (pmk_stuck T.xb T.stuck T.stuckI (by exact Nat.lt_of_le_of_lt (Nat.add_le_add_left (by decide : 10 ≤ 3 * 7 + 5) _) hr.dp) (by exact (pa_cons (pv 3) pa_nil))).pmk)) pss_nil) (pss_cons (ps_asg (pe_call (ok_read_piece T) (hr.mono (by decide)) rfl T.d_read_piece.g T.d_read_piece.k T.d_read_piece.b .nil (L2N.passes_call tkN fun _ _ _ _ z => z) (pa_cons (pv 0) (pa_cons (pv 3) pa_nil))) (pg_tup rfl (pgs_cons (pg_name (i := 4) sc_read_pieces.nd rfl (by first | exact Or.inl rfl | exact Or.inr rfl)) (pgs_cons (pg_name (i := 3) sc_read_pieces.nd rfl (by first | exact Or.inl rfl | exact Or.inr rfl)) pgs_nil)))) (pss_one (ps_expr (pe_bm PySem.F.plainAttrs_list PySem.F.slot_list_append PySem.F.type_list_append mt_append (pv 2) (pa_cons (pv 4) pa_nil))))))) (pss_one (ps_ret (pe_tup (pa_cons (pe_make T.c_Row.mkr (ok_Row_init T) (hr.mono (by decide)) rfl T.c_Row.g T.d_Row_init.b .nil pass0 (pa_cons (pv 2) pa_nil)) (pa_cons (pv 3) pa_nil)))))))), ?_⟩
  obtain ⟨a, b, p0, rfl, hS, hK, h⟩ := h
  refine ⟨by show 0 ≤ sizeLine; decide, fun pl hpl => ⟨_, rfl, ?_⟩⟩
  refine ⟨invPcs K b a pl p0 H E (fun x H' => ∀ t r, RowFr K H H' r x.1 → H' t = some (.tup [.ref r, .int (x.2 : Nat)]) → Q (.ref t) H'), ⟨_, [], p0, b.length - p0, _, rfl, rfl, .new hpl, ⟨[], upd_same, rfl, fun i x z => by simp at z⟩, by decide, by omega, h⟩, ?_⟩
  rintro m σ Hc ⟨l, p, n, o, rfl, rfl, hs, hP, hl, hn, h⟩
  have hS1 := hs.l hS
  refine ans_use (b := decide (p < b.length ∧ b[p]? ≠ some 10)) (fun Q' q' => ?_) ?_
  · refine ⟨_, rfl, _, rfl, _, _, rfl, len_b hS1, _, _, rfl, rfl, _, rfl, ite2 (fun h1 => ?_) fun h1 => ?_⟩
    · have h1 : p < b.length := by
        simp at h1
        omega
      obtain ⟨c, hc⟩ := lt_some h1
      refine ⟨_, rfl, _, rfl, _, _, _, _, rfl, rfl, hS1, bv_at hc, rfl, _, rfl, ?_⟩
      have e : decide (p < b.length ∧ b[p]? ≠ some 10) = !decide (V.int (c.toNat : Int) = V.int 10) := by
        rw [← decide_not, decide_eq_decide, hc]
        constructor
        · rintro ⟨_, z⟩ y
          injection y with y
          exact z (congrArg some (UInt8.toNat_inj.mp (by show c.toNat = 10; omega)))
        · intro z
          refine ⟨h1, fun y => z ?_⟩
          cases y
          rfl
      rw [e] at q'
      exact q'
    · have h1 : ¬ p < b.length := by
        simp at h1
        omega
      rw [decide_eq_false (fun z => h1 z.1)] at q'
      exact q'
  cases hb : decide (p < b.length ∧ b[p]? ≠ some 10) with
  | true =>
    have hb := of_decide_eq_true hb
    obtain ⟨n, rfl⟩ : ∃ n', n = n' + 1 := ⟨n - 1, by omega⟩; rw [rPcs, if_pos hb] at h
    obtain ⟨ts, hts, ht2, ht3⟩ := id hP
    refine ⟨fun σ' H' => ∃ m', m' < b.length - p ∧ invPcs K b a pl p0 H E (fun x H' => ∀ t r, RowFr K H H' r x.1 → H' t = some (.tup [.ref r, .int (x.2 : Nat)]) → Q (.ref t) H') m' σ' H', fun _ _ z => z, ?_⟩
    refine ⟨_, rfl, _, _, rfl, len_l (SqL.of hts), rfl, _, rfl, ite2 (fun h1 => ?_) fun h1 => ?_⟩
    · have h1 : l.length = 4096 := by
        simp [ht2] at h1
        omega
      rw [if_pos h1] at h
      exact ⟨_, rfl, _, rfl, fun d hd => (h.err.same hs).at hd⟩
    have h1 : ¬ l.length = 4096 := by
      simp [ht2] at h1
      omega
    rw [if_neg h1] at h
    refine ⟨_, rfl, _, rfl, a, b, p, rfl, hS1, hs.rd hK, h.stepA hs fun x H2 hx hs2 h t u hu ht => ?_⟩
    have hl2 := hs2.at hts
    have he := rPiece_end hx
    refine ⟨t, _, rfl, SqT.of ht, rfl, _, _, rfl, _, _, rfl, rfl, ?_⟩
    refine ⟨_, rfl, .inl ⟨rfl, _, SqL.of hl2⟩, _, rfl, _, _, _, rfl, rfl, hl2, ?_, ?_⟩
    · rw [List.length_map, ht2]
      exact small (by omega)
    · refine ⟨b.length - x.2, by omega, l ++ [x.1], x.2, n, _, rfl, rfl, (hs.trans hs2).mut hpl hl2 trivial, PL.snoc (hP.sm hs2) hl2 hu, ?_, by omega, h⟩; rw [List.length_append, List.length_singleton]; omega
  | false =>
    have hb := of_decide_eq_false hb
    have hq : ∀ H', Sm K H H' → ∀ t r, RowFr K H H' r l → H' t = some (.tup [.ref r, .int (p : Nat)]) → Q (.ref t) H' := fun H' hs' => by
      cases n with
      | zero => exact h.okS hs'
      | succ n =>
        rw [rPcs, if_neg hb] at h
        exact h.okS hs'
    have s0 : ∀ {x dx : Addr}, Hc x = none → Hc dx = none → dx ≠ x → Sm K Hc (upd (upd Hc dx (.own x)) x (.ins (ga K "Row") dx [])) := fun {x dx} hx hdx hne => (Sm.new hdx).trans (.new (by rw [upd_ne (Ne.symm hne)]; exact hx))
    refine ⟨_, rfl, fun x dx hx hdx hne => ⟨x, dx, pl, l, rfl, upd_same, hP.sm (s0 hx hdx hne), hl, fun H' fr row => ⟨rfl, ?_⟩⟩⟩
    have s1 := fr.sm (s0 hx hdx hne) (fun y hy => by rw [List.mem_singleton.mp hy]; exact hx)
    exact ⟨_, rfl, by show 2 ≤ sizeLine; decide, fun t ht => hq _ (hs.trans (s1.trans (.new ht))) t x ((row.sm (.new ht)).from fun y hy => hs.f _ ((s0 hx hdx hne).f _ hy)) upd_same⟩
/-- read_row -/
def rRow (b : Bytes) : R (List Pc) := (rPieces b 0).bind fun x => if x.2 < b.length then .error x.2 else .ok x.1
def spRow (K : PySem.W.Frag) : Sp := fun vs H Q E => ∃ (a : Addr) (b : Bytes), vs = [.ref a] ∧ SqL K H a (bv b) ∧ TagK K H ∧ Res K (rRow b) H E fun l H' => ∀ r, RowAt K H' r l → Q (.ref r) H'
end Tc
namespace Tc
open Fh FhCheck
/-! ### plain: a character -/
/-- the bound of so many bytes -/
def topOf (n : Nat) : Nat := if n = 1 then 128 else if n = 2 then 2048 else if n = 3 then 65536 else 2 ^ 21
theorem want_eq {n k v m : Nat} (hm : m = n - k) (hn : 1 ≤ n ∧ n ≤ 4) (hb : v * 64 ^ m + 64 ^ m ≤ topOf n) : someChar (max (v * 64 ^ m) (leastOf n)) (v * 64 ^ m + (64 ^ m - 1)) = mayBe n k v := by
  subst hm
  unfold someChar mayBe
  rw [decide_eq_decide]
  have p : 0 < 64 ^ (n - k) := Nat.pow_pos (by decide)
  have e : min (v * 64 ^ (n - k) + (64 ^ (n - k) - 1)) 1114111 = min (v * 64 ^ (n - k) + (64 ^ (n - k) - 1)) (mostOf n) := by
    unfold topOf at hb
    unfold mostOf
    split at hb
    · rw [if_pos (by assumption)]
      omega
    · rw [if_neg (by assumption)]
      split at hb
      · rw [if_pos (by assumption)]
        omega
      · rw [if_neg (by assumption)]
        split at hb
        · rw [if_pos (by assumption)]
          omega
        · rw [if_neg (by assumption)]
  rw [e]
theorem goOn_end {f n v : Nat} {b : Bytes} : goOn (f + 1) n n v b = .ok v := by
  unfold goOn
  exact if_pos rfl
theorem goOn_nil {f n k v : Nat} (h : ¬ k = n) : goOn (f + 1) n k v [] = .error k := by
  unfold goOn
  exact if_neg h
theorem goOn_cons {f n k v : Nat} {c : UInt8} {r : Bytes} (h : ¬ k = n) : goOn (f + 1) n k v (c :: r) = if c.toNat / 64 = 2 ∧ mayBe n (k + 1) (v * 64 + c.toNat % 64) = true then goOn f n (k + 1) (v * 64 + c.toNat % 64) r else .error k := by
  rw [goOn.eq_def]
  exact if_neg h
theorem go_rc {n : Nat} (hn : 1 ≤ n ∧ n ≤ 4) : ∀ {m f k v : Nat} {r : Bytes}, m + k = n → m < f → 1 ≤ k → v * 64 ^ m + 64 ^ m ≤ topOf n → mayBe n k v = true →
    rcGo someChar (leastOf n) m (v * 64 ^ m) (k - 1) r = (match goOn f n k v r with | .ok x => .ok (x, n) | .error j => .error j)
  | 0, f + 1, k, v, r, hk, hf, h1, hb, hw => by
    have e : k = n := by omega
    subst e
    rw [goOn_end, rcGo_0 (by rw [want_eq (k := k) (by omega) hn hb]; exact hw)]
    show Except.ok (v * 64 ^ 0, k - 1 + 1) = Except.ok (v, k)
    rw [Nat.sub_add_cancel h1]
    simp
  | m + 1, f + 1, k, v, r, hk, hf, h1, hb, hw => by
    have hw' : someChar (max (v * 64 ^ (m + 1)) (leastOf n)) (v * 64 ^ (m + 1) + (64 ^ (m + 1) - 1)) = true := by
      rw [want_eq (k := k) (by omega) hn hb]
      exact hw
    have hkn : ¬ k = n := by omega
    cases r with
    | nil =>
      rw [goOn_nil hkn, rcGo_nil hw', Nat.sub_add_cancel h1]
    | cons c r =>
      rw [goOn_cons hkn]
      by_cases hc : c.toNat / 64 = 2
      · rw [rcGo_on hw' hc, Nat.sub_add_cancel h1]
        have el : v * 64 ^ (m + 1) + c.toNat % 64 * 64 ^ m = (v * 64 + c.toNat % 64) * 64 ^ m := by
          rw [Nat.pow_succ, Nat.add_mul, Nat.mul_assoc, Nat.mul_comm 64]
        have hb' : (v * 64 + c.toNat % 64) * 64 ^ m + 64 ^ m ≤ topOf n := by
          refine Nat.le_trans ?_ hb
          have h64 : c.toNat % 64 < 64 := Nat.mod_lt _ (by decide)
          calc (v * 64 + c.toNat % 64) * 64 ^ m + 64 ^ m = (v * 64 + c.toNat % 64 + 1) * 64 ^ m := by rw [Nat.add_mul _ 1, Nat.one_mul]
            _ ≤ (v * 64 + 64) * 64 ^ m := Nat.mul_le_mul_right _ (by omega)
            _ = v * 64 ^ (m + 1) + 64 ^ (m + 1) := by rw [Nat.pow_succ, Nat.add_mul, Nat.mul_assoc, Nat.mul_comm 64]
        rw [el]
        cases hm : mayBe n (k + 1) (v * 64 + c.toNat % 64) with
        | true =>
          rw [if_pos ⟨hc, rfl⟩]
          have ih := go_rc hn (m := m) (f := f) (k := k + 1) (v := v * 64 + c.toNat % 64) (r := r) (by omega) (by omega) (by omega) hb' hm
          rw [Nat.add_sub_cancel] at ih
          exact ih
        | false =>
          rw [if_neg (fun z => by cases z.2), rcGo_no (by rw [want_eq (k := k + 1) (by omega) hn hb']; exact hm)]
      · rw [rcGo_bad hw' hc, Nat.sub_add_cancel h1, if_neg (fun z => hc z.1)]
/-- the head: how many bytes go on, its bits, the least number -/
theorem lead_by (c : Nat) (hc : c < 256) : leadShape c = if lengthBy c = 0 then none else some (lengthBy c - 1, headOf (lengthBy c) c, leastOf (lengthBy c)) := by
  have h : ∀ c, c < 256 → leadShape c = if lengthBy c = 0 then none else some (lengthBy c - 1, headOf (lengthBy c) c, leastOf (lengthBy c)) := by decide +kernel
  exact h c hc
theorem head_top (c : Nat) (hc : c < 256) : lengthBy c ≤ 4 ∧ (lengthBy c ≠ 0 → headOf (lengthBy c) c * 64 ^ (lengthBy c - 1) + 64 ^ (lengthBy c - 1) ≤ topOf (lengthBy c)) := by
  have h : ∀ c, c < 256 → lengthBy c ≤ 4 ∧ (lengthBy c ≠ 0 → headOf (lengthBy c) c * 64 ^ (lengthBy c - 1) + 64 ^ (lengthBy c - 1) ≤ topOf (lengthBy c)) := by decide +kernel
  exact h c hc
/-- from a place on -/
theorem char_same (b : Bytes) (p : Nat) : rAny b p = offR p (charHere (b.drop p)) := by
  unfold rAny rChar
  cases hb : b.drop p with
  | nil => rfl
  | cons c r =>
    dsimp only
    have hc := u8_lt c
    obtain ⟨h4, ht⟩ := head_top _ hc
    rw [rLead, lead_by _ hc, charHere]
    by_cases h0 : lengthBy c.toNat = 0
    · rw [if_pos h0, if_pos (.inl h0)]
      rfl
    · rw [if_neg h0]
      have hn : 1 ≤ lengthBy c.toNat ∧ lengthBy c.toNat ≤ 4 := ⟨by omega, h4⟩
      have hb := ht h0
      show offR p (rcGo someChar (leastOf (lengthBy c.toNat)) (lengthBy c.toNat - 1) (headOf (lengthBy c.toNat) c.toNat * 64 ^ (lengthBy c.toNat - 1)) 0 r) = _
      cases hm : mayBe (lengthBy c.toNat) 1 (headOf (lengthBy c.toNat) c.toNat) with
      | false =>
        rw [if_pos (.inr rfl), rcGo_no (by rw [want_eq (k := 1) rfl hn hb]; exact hm)]
      | true =>
        rw [if_neg (fun z => by rcases z with z | z; exact h0 z; cases z)]
        have z := go_rc hn (m := lengthBy c.toNat - 1) (f := 4) (k := 1) (v := headOf (lengthBy c.toNat) c.toNat) (r := r) (by omega) (by omega) (by omega) hb hm
        rw [Nat.sub_self] at z
        rw [z]
        cases goOn 4 (lengthBy c.toNat) 1 (headOf (lengthBy c.toNat) c.toNat) r <;> rfl
end Tc
namespace Tc
open Fh FhCheck
/-! ### plain: pieces, rows -/
def pcOf : Piece → Pc
  | .char c => (0, c)
  | .open_ n => (1, n)
  | .close n => (2, n)
  | .alone n => (3, n)
/-- digits, then the closing brace, k digits gone -/
def tagGo (r : Bytes) (k v : Nat) : R (Nat × Nat) := match rnGo 1 999 r k v with
  | .error j => .error j
  | .ok x => if r[x.2 - k]? = some 125 then .ok x else .error x.2
theorem begins_tag {k v d : Nat} (h0 : k = 0 → v = 0) (h1 : 1 ≤ k → 10 ^ (k - 1) ≤ v ∧ v < 10 ^ k) (hd : d < 10) (hk : k ≤ 3) (h : k ≠ 0 ∨ d ≠ 0) : begins 1 999 (10 * v + d) = decide (k < 3) := by
  by_cases h3 : k = 3
  · subst h3
    obtain ⟨a, b⟩ := h1 (by decide)
    have h100 : 100 ≤ v := a
    rw [begins_pos (by omega), List.any_eq_false.mpr]
    · rfl
    · intro j hj; simp only [Bool.and_eq_true, decide_eq_true_eq]
      rintro ⟨z, _⟩
      have : 1 ≤ 10 ^ j := Nat.pow_pos (by decide)
      have : 10 * v + d ≤ (10 * v + d) * 10 ^ j := Nat.le_mul_of_pos_right _ this
      omega
  · have hv : v < 100 := by
      by_cases h0' : k = 0
      · have := h0 h0'
        omega
      · obtain ⟨_, b⟩ := h1 (by omega)
        have : 10 ^ k ≤ 10 ^ 2 := Nat.pow_le_pow_right (by decide) (by omega)
        omega
    have hp : 10 * v + d ≠ 0 := by
      by_cases h0' : k = 0
      · have := h0 h0'
        omega
      · obtain ⟨a, _⟩ := h1 (by omega)
        have : 1 ≤ 10 ^ (k - 1) := Nat.pow_pos (by decide)
        omega
    rw [begins_pos hp, decide_eq_true (by omega : k < 3), List.any_eq_true]
    exact ⟨0, by simp, by simp; omega⟩
theorem tagGo_on {c : UInt8} {r : Bytes} {k v : Nat} (hd : isDigit c = true) (h : ¬ ((k ≠ 0 ∧ v = 0) ∨ begins 1 999 (10 * v + (c.toNat - 48)) = false)) : tagGo (c :: r) k v = tagGo r (k + 1) (10 * v + (c.toNat - 48)) := by
  unfold tagGo
  rw [rnGo, if_pos hd, if_neg h]
  cases hr : rnGo 1 999 r (k + 1) (10 * v + (c.toNat - 48)) with
  | error j => rfl
  | ok x =>
    have := rnGo_end hr
    dsimp only
    rw [show x.2 - k = (x.2 - (k + 1)) + 1 by omega, List.getElem?_cons_succ]
theorem tagGo_bad {c : UInt8} {r : Bytes} {k v : Nat} (hd : isDigit c = true) (h : (k ≠ 0 ∧ v = 0) ∨ begins 1 999 (10 * v + (c.toNat - 48)) = false) : tagGo (c :: r) k v = .error k := by
  unfold tagGo
  rw [rnGo, if_pos hd, if_pos h]
theorem tag_same : ∀ {r : Bytes} {k v : Nat}, k ≤ 3 → (k = 0 → v = 0) → (1 ≤ k → 10 ^ (k - 1) ≤ v ∧ v < 10 ^ k) →
    tagGo r k v = (match digitsHere k v r with | .ok x => .ok x | .error j => .error (k + j))
  | [], k, v, hk, h0, h1 => by
    unfold tagGo
    rw [rnGo, digitsHere]
    split
    · rename_i h
      split at h
      · cases h
        rfl
      · cases h
    · rename_i x h
      split at h
      · cases h
      · cases h
        simp
  | c :: r, k, v, hk, h0, h1 => by
    by_cases hd : isDigit c = true
    · have hc := (digit_iff c).mp hd
      have hn : c ≠ 125 := fun z => by
        rw [z] at hc
        exact absurd hc.2 (by decide)
      rw [digitsHere]
      by_cases hk0 : k = 0
      · have hv := h0 hk0
        subst hk0 hv
        rw [if_pos rfl]
        by_cases hz : c.toNat = 48
        · rw [tagGo_bad hd (.inr (by rw [hz]; rfl)), if_neg (by omega)]
        · have hb := begins_tag (k := 0) (v := 0) (d := c.toNat - 48) (fun _ => rfl) (fun z => absurd z (by decide)) (by omega) (by decide) (.inr (by omega))
          rw [tagGo_on hd (by rw [hb]; simp), if_pos (by omega), tag_same (by decide) (fun z => absurd z (by decide)) (fun _ => by simp; omega)]
          simp only [Nat.mul_zero, Nat.zero_add]
          cases digitsHere 1 (c.toNat - 48) r with
          | ok x => rfl
          | error j => simp [Nat.add_comm]
      · obtain ⟨a, b⟩ := h1 (by omega)
        have p1 : 1 ≤ 10 ^ (k - 1) := Nat.pow_pos (by decide)
        have hb := begins_tag (d := c.toNat - 48) h0 h1 (by omega) hk (.inl hk0)
        rw [if_neg hk0, if_neg hn]
        by_cases h3 : k < 3
        · have e10 : 10 ^ (k + 1) = 10 ^ k * 10 := Nat.pow_succ ..
          have e9 : 10 ^ k = 10 ^ (k - 1) * 10 := by rw [← Nat.pow_succ, Nat.succ_eq_add_one, Nat.sub_add_cancel (by omega)]
          rw [tagGo_on hd (by rw [hb, decide_eq_true h3]; simp; omega), if_pos ⟨h3, hd⟩, tag_same (by omega) (fun z => absurd z (by omega)) (fun _ => ⟨by rw [Nat.add_sub_cancel]; omega, by omega⟩)]
          cases digitsHere (k + 1) (10 * v + (c.toNat - 48)) r with
          | ok x => rfl
          | error j => simp; omega
        · rw [tagGo_bad hd (.inr (by rw [hb, decide_eq_false h3])), if_neg (fun z => h3 z.1)]
          simp
    · unfold tagGo
      rw [rnGo, if_neg hd, digitsHere]
      have nd : ¬ (48 ≤ c.toNat ∧ c.toNat ≤ 57) := fun z => hd ((digit_iff c).mpr z)
      by_cases hk0 : k = 0
      · rw [if_pos (.inl hk0), if_pos hk0, if_neg (by omega), hk0]
      · obtain ⟨a, b⟩ := h1 (by omega)
        have p1 : 1 ≤ 10 ^ (k - 1) := Nat.pow_pos (by decide)
        rw [if_neg (by omega), if_neg hk0]
        dsimp only
        rw [Nat.sub_self, List.getElem?_cons_zero]
        by_cases h5 : c = 125
        · rw [if_pos (by rw [h5]), if_pos h5]
        · rw [if_neg (fun z => h5 (Option.some.inj z)), if_neg h5, if_neg (fun z => hd z.2)]
          simp
end Tc
namespace Tc
open Fh FhCheck
/-! ### plain: a piece -/
theorem nextChar_ge (c : Nat) : c ≤ nextChar c := by
  unfold nextChar
  split
  · omega
  · split
    · omega
    · split
      · omega
      · split
        · omega
        · exact Nat.le_refl _
theorem goOn_may {n : Nat} : ∀ {f k v : Nat} {r : Bytes} {x : Nat}, n < f + k → k ≤ n → mayBe n k v = true → goOn f n k v r = .ok x → mayBe n n x = true
  | 0, k, v, r, x, hf, hk, hm, h => by omega
  | f + 1, k, v, r, x, hf, hk, hm, h => by
    by_cases e : k = n
    · subst e
      rw [goOn_end] at h
      cases h
      exact hm
    · cases r with
      | nil =>
        rw [goOn_nil e] at h
        cases h
      | cons c r =>
        rw [goOn_cons e] at h
        split at h
        · rename_i z
          exact goOn_may (by omega) (by omega) z.2 h
        · cases h
theorem char_brace {c : UInt8} {r : Bytes} {x : Nat × Nat} (hc : c ≠ 123) (h : charHere (c :: r) = .ok x) : x.1 ≠ 123 := by
  rw [charHere] at h
  split at h
  · cases h
  · rename_i h0
    split at h
    · rename_i v hv
      cases h
      have h1 : lengthBy c.toNat ≠ 0 := fun z => h0 (.inl z)
      have h2 : mayBe (lengthBy c.toNat) 1 (headOf (lengthBy c.toNat) c.toNat) = true := by
        cases z : mayBe (lengthBy c.toNat) 1 (headOf (lengthBy c.toNat) c.toNat) with
        | true => rfl
        | false => exact absurd (.inr z) h0
      obtain ⟨h4, _⟩ := head_top _ (u8_lt c)
      show v ≠ 123
      by_cases e : lengthBy c.toNat = 1
      · rw [e, goOn_end] at hv
        cases hv
        rw [headOf, if_pos rfl]
        exact fun z => hc (UInt8.toNat_inj.mp z)
      · have hm := goOn_may (by omega) (by omega) h2 hv
        unfold mayBe at hm
        have hm := of_decide_eq_true hm
        have := nextChar_ge (max (v * 64 ^ (lengthBy c.toNat - lengthBy c.toNat)) (leastOf (lengthBy c.toNat)))
        rw [Nat.sub_self, Nat.pow_zero, Nat.mul_one] at hm this
        have hl : 128 ≤ leastOf (lengthBy c.toNat) := by
          unfold leastOf
          split
          · omega
          · split
            · omega
            · split <;> omega
        omega
    · cases h
theorem word_brace (b : Bytes) (q : Nat) : rWord b q [125] = if (b.drop q)[0]? = some 125 then .ok (q + 1) else .error q := by
  unfold rWord
  cases hb : b.drop q with
  | nil => rfl
  | cons c r =>
    rw [List.getElem?_cons_zero]
    by_cases h : c = 125
    · subst h
      rfl
    · rw [if_neg (fun z => h (Option.some.inj z)), if_neg]
      · show Except.error (q + common [125] (c :: r)) = _
        rw [common, if_neg (fun z => h z.symm)]
        rfl
      · intro z
        rw [List.isPrefixOf_cons₂, Bool.and_eq_true] at z
        exact h (beq_iff_eq.mp z.1).symm
theorem tag_run (b : Bytes) (p k : Nat) : ((rNum b p 1 999).bind fun y => (rWord b y.2 [125]).bind fun q => (.ok ((k, y.1), q) : R (Pc × Nat))) = (match tagGo (b.drop p) 0 0 with | .ok x => .ok ((k, x.1), p + x.2 + 1) | .error j => .error (p + j)) := by
  unfold rNum tagGo
  cases hr : rnGo 1 999 (b.drop p) 0 0 with
  | error j => rfl
  | ok x =>
    show ((rWord b (p + x.2) [125]).bind fun q => (.ok ((k, x.1), q) : R (Pc × Nat))) = _
    rw [word_brace, List.getElem?_drop, Nat.add_zero]
    dsimp only
    rw [Nat.sub_zero, List.getElem?_drop]
    by_cases h : b[p + x.2]? = some 125
    · rw [if_pos h, if_pos h]
      rfl
    · rw [if_neg h, if_neg h]
      rfl
theorem piece_one : pieceHere [123] = .error 1 := by
  rw [pieceHere.eq_def]
  exact if_pos rfl
theorem piece_brace (s : UInt8) (d : Bytes) : pieceHere (123 :: s :: d) = if s = 123 then .ok (.char 123, 2) else if s = 43 ∨ s = 45 ∨ s = 46 then (match digitsHere 0 0 d with | .ok x => .ok (tagOf s x.1, x.2 + 3) | .error k => .error (k + 2)) else .error 1 := by
  rw [pieceHere.eq_def]
  exact if_pos rfl
theorem piece_char {c : UInt8} {r : Bytes} (h : c ≠ 123) : pieceHere (c :: r) = (match charHere (c :: r) with | .ok x => .ok (.char x.1, x.2) | .error k => .error k) := by
  rw [pieceHere.eq_def]
  exact if_neg h
theorem piece_same (b : Bytes) (p : Nat) : rPiece b p = (match pieceHere (b.drop p) with | .ok x => .ok (pcOf x.1, p + x.2) | .error k => .error (p + k)) := by
  unfold rPiece
  rw [char_same]
  cases hb : b.drop p with
  | nil => rfl
  | cons c r =>
    by_cases hc : c = 123
    · subst hc
      have e1 : charHere (123 :: r) = .ok (123, 1) := by
        rw [charHere, show lengthBy (123 : UInt8).toNat = 1 by decide, if_neg (by decide), show (4 : Nat) = 3 + 1 from rfl, goOn_end]
        rfl
      rw [e1]
      show (if (123 : Nat) = 123 then rTag b (p + 1) else .ok ((0, 123), p + 1)) = _
      rw [if_pos rfl, rTag]
      have e2 : b[p + 1]? = r[0]? := by
        rw [← List.getElem?_drop (i := p) (j := 1), hb]
        rfl
      have e3 : b.drop (p + 1) = r := by
        rw [← List.drop_drop, hb]
        rfl
      rw [e2]
      cases r with
      | nil =>
        rw [piece_one]
        rfl
      | cons s d =>
        rw [List.getElem?_cons_zero, piece_brace]
        dsimp only
        have e4 : b.drop (p + 1 + 1) = d := by
          rw [← List.drop_drop, e3]
          rfl
        by_cases hs : s = 123
        · subst hs
          rfl
        have ne : ∀ {y : UInt8}, s ≠ y → s.toNat ≠ y.toNat := fun h z => h (UInt8.toNat_inj.mp z)
        rw [if_neg (show ¬ s.toNat = 123 from ne hs), if_neg hs]
        have run : ∀ k : Nat, ((rNum b (p + 1 + 1) 1 999).bind fun y => (rWord b y.2 [125]).bind fun q => (.ok ((k, y.1), q) : R (Pc × Nat))) = (match digitsHere 0 0 d with | .ok x => .ok ((k, x.1), p + (x.2 + 3)) | .error j => .error (p + (j + 2))) := fun k => by
          rw [tag_run, e4, tag_same (by decide) (fun _ => rfl) (fun z => absurd z (by decide))]
          cases digitsHere 0 0 d with
          | ok x =>
            show Except.ok ((k, x.1), p + 1 + 1 + x.2 + 1) = Except.ok ((k, x.1), p + (x.2 + 3))
            rw [show p + 1 + 1 + x.2 + 1 = p + (x.2 + 3) by omega]
          | error j =>
            show Except.error (p + 1 + 1 + (0 + j)) = Except.error (p + (j + 2))
            rw [show p + 1 + 1 + (0 + j) = p + (j + 2) by omega]
        have fin : ∀ k : Nat, kindOf s.toNat = some k → (∀ n, pcOf (tagOf s n) = (k, n)) → (s = 43 ∨ s = 45 ∨ s = 46) → (match kindOf s.toNat with
            | none => Except.error (p + 1)
            | some k => (rNum b (p + 1 + 1) 1 999).bind fun y => (rWord b y.2 [125]).bind fun q => (.ok ((k, y.1), q) : R (Pc × Nat))) =
            (match (if s = 43 ∨ s = 45 ∨ s = 46 then (match digitsHere 0 0 d with | .ok x => .ok (tagOf s x.1, x.2 + 3) | .error k => .error (k + 2)) else .error 1 : Except Nat (Piece × Nat)) with | .ok x => .ok (pcOf x.1, p + x.2) | .error k => .error (p + k)) := fun k hk hp hs => by
          rw [hk, if_pos hs]
          dsimp only
          rw [run k]
          cases digitsHere 0 0 d with
          | ok x =>
            dsimp only
            rw [hp]
          | error j => rfl
        by_cases h1 : s = 43
        · exact fin 1 (by rw [h1]; rfl) (fun n => by rw [h1]; rfl) (.inl h1)
        by_cases h2 : s = 45
        · exact fin 2 (by rw [h2]; rfl) (fun n => by rw [h2]; rfl) (.inr (.inl h2))
        by_cases h3 : s = 46
        · exact fin 3 (by rw [h3]; rfl) (fun n => by rw [h3]; rfl) (.inr (.inr h3))
        rw [if_neg (fun z => by rcases z with z | z | z; exact h1 z; exact h2 z; exact h3 z), kindOf, if_neg (show ¬ s.toNat = 43 from ne h1), if_neg (show ¬ s.toNat = 45 from ne h2), if_neg (show ¬ s.toNat = 46 from ne h3)]
    · rw [piece_char hc]
      cases hh : charHere (c :: r) with
      | error j => rfl
      | ok x =>
        show (if x.1 = 123 then rTag b (p + x.2) else .ok ((0, x.1), p + x.2)) = _
        rw [if_neg (char_brace hc hh)]
        rfl
end Tc
namespace Tc
open Fh FhCheck
/-! ### plain: a row -/
theorem rowFrom_nil (f p : Nat) (l : Row) : rowFrom f p l [] = .ok l.reverse := by
  cases f <;> rfl
theorem rowFrom_cons (f p : Nat) (l : Row) (c : UInt8) (r : Bytes) : rowFrom (f + 1) p l (c :: r) = (match pieceHere (c :: r) with | .ok x => rowFrom f (p + x.2) (x.1 :: l) ((c :: r).drop x.2) | .error k => .error (p + k)) := by
  rw [rowFrom.eq_def]
  rfl
theorem piece_nl (r : Bytes) : pieceHere (10 :: r) = .error 0 := by
  rw [piece_char (by decide), charHere, if_pos (.inr (by decide))]
theorem pcs_same {b : Bytes} (hb : b.length ≤ 4096) : ∀ {n f p : Nat} {l : List Pc} {acc : Row}, b.length ≤ p + n → b.length ≤ p + f → l.length ≤ p → acc.reverse.map pcOf = l →
    ((rPcs b n l p).bind fun x => if x.2 < b.length then .error x.2 else (.ok x.1 : R (List Pc))) = (match rowFrom f p acc (b.drop p) with | .ok r => .ok (r.map pcOf) | .error e => .error e) := by
  intro n
  induction n with
  | zero =>
    intro f p l acc hn hf hl ha
    rw [List.drop_eq_nil_of_le (by omega), rowFrom_nil]
    show (if p < b.length then Except.error p else (.ok l : R (List Pc))) = _
    rw [if_neg (by omega)]
    dsimp only
    rw [ha]
  | succ n ih =>
    intro f p l acc hn hf hl ha
    by_cases hp : p < b.length
    · obtain ⟨c, hc⟩ := lt_some hp
      obtain ⟨f, rfl⟩ : ∃ f', f = f' + 1 := ⟨f - 1, by omega⟩
      rw [drop_at hc, rowFrom_cons, rPcs, hc]
      by_cases h10 : c = 10
      · subst h10
        rw [if_neg (fun z => z.2 rfl), piece_nl]
        show (if p < b.length then Except.error p else (.ok l : R (List Pc))) = _
        rw [if_pos hp]
        rfl
      · rw [if_pos ⟨hp, fun z => h10 (Option.some.inj z)⟩, if_neg (by omega), piece_same, drop_at hc]
        cases hx : pieceHere (c :: b.drop (p + 1)) with
        | error k => rfl
        | ok x =>
          have he : p < p + x.2 := by
            have z := piece_same b p
            rw [drop_at hc, hx] at z
            exact rPiece_end z
          show ((rPcs b n (l ++ [pcOf x.1]) (p + x.2)).bind fun x => if x.2 < b.length then .error x.2 else (.ok x.1 : R (List Pc))) = _
          rw [ih (f := f) (acc := x.1 :: acc) (by omega) (by omega) (by rw [List.length_append, List.length_singleton]; omega) (by rw [List.reverse_cons, List.map_append, ha]; rfl)]
          dsimp only
          rw [← drop_at hc, List.drop_drop]
    · rw [List.drop_eq_nil_of_le (by omega), rowFrom_nil, rPcs, if_neg (fun z => hp z.1)]
      show (if p < b.length then Except.error p else (.ok l : R (List Pc))) = _
      rw [if_neg hp]
      dsimp only
      rw [ha]
theorem row_same {b : Bytes} (hb : b.length ≤ 4096) : rRow b = (match rowRead b with | .ok r => .ok (r.map pcOf) | .error e => .error e) := by
  unfold rRow rPieces rowRead
  have z := pcs_same hb (n := b.length - 0) (f := b.length) (p := 0) (l := []) (acc := []) (by omega) (by omega) (Nat.le_refl _) rfl
  rw [List.drop_zero] at z
  exact z
end Tc
namespace Tc
open PySem L2 PySem.Spec PyProof.Rows Fh FhCheck
variable {K : PySem.W.Frag} {mg : Str → Option Value} {base : Heap} {P : Program} {w : World}
/-! ### numbers in rows -/
/-- is_mark_at -/
def markAt (l : List Pc) (p m : Nat) : Bool := decide (l[p]? = some (0, m))
def spMkA (K : PySem.W.Frag) : Sp := fun vs H Q E => ∃ (e : Addr) (l : List Pc) (p m : Nat), vs = [.ref e, .int p, .int m] ∧ PL H e l ∧ ∀ H', Sm K H H' → Q (.bl (markAt l p m)) H'
theorem ok_is_mark_at (T : Txt K mg) : FnOk P w K mg base CX0 1 (ga K "is_mark_at") (fd K "is_mark_at") ["pieces", "place", "mark"] (spMkA K) := by
  refine T.d_is_mark_at.fn.ok sc_is_mark_at (fun vs H Q E h => by obtain ⟨_, _, _, _, rfl, _⟩ := h; rfl) fun cdv A outer s H vs Q E hr h => ?_
  refine ⟨_, (pss_one (ps_ret (pe_and (pe_cmpR op_lt (pv 1) (pe_callB call_len (by rfl) T.n_len (by decide +kernel) (pa_cons (pv 0) pa_nil)) (nomark _)) (pe_one (pe_cmpR (op_eqD hr.units) (pe_ix ix_list (pv 0) (pv 1) (fun _ _ => rfl)) (pe_tup (pa_cons (pe_gi rfl T.i_CHARACTER) (pa_cons (pv 2) pa_nil))) (nomark _)))))), ?_⟩
  obtain ⟨e, l, p, m, rfl, hP, q⟩ := h
  obtain ⟨ts, hts, ht2, ht3⟩ := id hP
  refine ⟨_, rfl, _, rfl, _, _, rfl, len_l (SqL.of hts), _, _, rfl, rfl, _, rfl, ite2 (fun h1 => ?_) fun h1 => ?_⟩
  · have h1 : p < l.length := by
      simp [ht2] at h1
      omega
    obtain ⟨x, hx⟩ := lt_some h1
    obtain ⟨t, hti, hT⟩ := PL.get hP hts h1
    rw [pcAt_eq hx] at hT
    refine ⟨_, rfl, _, rfl, _, _, _, V.ref t, rfl, rfl, SqL.of hts, atI_nat (by rw [List.getElem?_map, hti]; rfl), _, rfl, by show 2 ≤ sizeLine; decide, fun u hu => ⟨_, _, .tup (SqT.of ((Sm.new (K := K) hu).at hT)) dp2, .tup (SqT.of upd_same) dp2, sh2 _ _, sh2 _ _, ?_⟩⟩
    have z := q _ (.new (o := .tup [.int (0 : Nat), .int (m : Nat)]) hu)
    rw [eqv2]
    rw [show markAt l p m = decide ((x.1, x.2) = (0, m)) by rw [markAt, hx, decide_eq_decide, Option.some_inj]] at z
    exact z
  · have h1 : ¬ p < l.length := by
      simp [ht2] at h1
      omega
    have z := q _ .refl
    rw [show markAt l p m = false by rw [markAt, List.getElem?_eq_none (by omega)]; rfl] at z
    exact z
/-- digits_end -/
def digAt (l : List Pc) (p : Nat) : Bool := match l[p]? with
  | some x => decide (x.1 = 0) && digit x.2
  | none => false
def digEnd (l : List Pc) : Nat → Nat → Nat
  | 0, p => p
  | n + 1, p => if digAt l p = true then digEnd l n (p + 1) else p
def digitsEnd (l : List Pc) (p : Nat) : Nat := digEnd l (l.length - p) p
def spDgE (K : PySem.W.Frag) : Sp := fun vs H Q E => ∃ (e : Addr) (l : List Pc) (p : Nat), vs = [.ref e, .int p] ∧ PL H e l ∧ Q (.int (digitsEnd l p : Nat)) H
theorem ok_digits_end (T : Txt K mg) : FnOk P w K mg base CX0 2 (ga K "digits_end") (fd K "digits_end") ["pieces", "start"] (spDgE K) := by
  refine T.d_digits_end.fn.ok sc_digits_end (fun vs H Q E h => by obtain ⟨_, _, _, rfl, _⟩ := h; rfl) fun cdv A outer s H vs Q E hr h => ?_
  refine ⟨_, (pss_cons (ps_set (i := 2) sc_digits_end.nd rfl (by first | exact Or.inl rfl | exact Or.inr rfl) (pv 1)) (pss_cons (ps_while PassesOwn.never (PW.pt (pw_and (pt_cmpR op_lt (pv 2) (pe_callB call_len (by rfl) T.n_len (by decide +kernel) (pa_cons (pv 0) pa_nil)) (nomark _)) (pw_and (pt_cmpR op_eq (pe_ix ix_tup (pe_ix ix_list (pv 0) (pv 2) (fun _ _ => rfl)) pe_int (fun _ _ => rfl)) (pe_gi rfl T.i_CHARACTER) (nomark _)) (pw_and1 (pt_val (pe_call (ok_is_digit T) (hr.mono (by decide)) rfl T.d_is_digit.g T.d_is_digit.k T.d_is_digit.b .nil pass0 (pa_cons (pe_ix ix_tup (pe_ix ix_list (pv 0) (pv 2) (fun _ _ => rfl)) pe_int (fun _ _ => rfl)) pa_nil))))))) (pss_one (ps_aug (i := 2) sc_digits_end.nd rfl (by first | exact Or.inl rfl | exact Or.inr rfl) pe_int ip_add))) (pss_one (ps_ret (pv 2))))), ?_⟩
  obtain ⟨e, l, p, rfl, hP, q⟩ := h
  obtain ⟨ts, hts, ht2, ht3⟩ := id hP
  refine ⟨_, rfl, ?_⟩
  refine ⟨fun m σ H' => H' = H ∧ ∃ c n : Nat, m = l.length - c ∧ σ = [some (.ref e), some (.int p), some (.int (c : Nat))] ∧ l.length ≤ c + n ∧ digEnd l n c = digitsEnd l p, ⟨_, rfl, p, l.length - p, rfl, rfl, by omega, rfl⟩, ?_⟩
  rintro m σ Hc ⟨rfl, c, n, rfl, rfl, hn, hd⟩
  refine ans_use (b := digAt l c) (fun Q' q' => ?_) ?_
  · refine ⟨_, rfl, _, rfl, _, _, rfl, len_l (SqL.of hts), _, _, rfl, rfl, _, rfl, ite2 (fun h1 => ?_) fun h1 => ?_⟩
    · have h1 : c < l.length := by
        simp [ht2] at h1
        omega
      obtain ⟨x, hx⟩ := lt_some h1
      obtain ⟨t, hti, hT⟩ := PL.get hP hts h1
      rw [pcAt_eq hx] at hT
      have e1 : digAt l c = (decide (x.1 = 0) && digit x.2) := by rw [digAt, hx]
      refine ⟨_, rfl, _, rfl, _, _, _, V.ref t, rfl, rfl, SqL.of hts, atI_nat (by rw [List.getElem?_map, hti]; rfl), t, _, _, _, rfl, rfl, SqT.of hT, rfl, rfl, _, rfl, ite2 (fun h2 => ?_) fun h2 => ?_⟩
      · have h2 : x.1 = 0 := by
          simp at h2
          omega
        refine ⟨_, rfl, _, rfl, _, _, _, V.ref t, rfl, rfl, SqL.of hts, atI_nat (by rw [List.getElem?_map, hti]; rfl), t, _, _, _, rfl, rfl, SqT.of hT, rfl, x.2, rfl, _, rfl, ?_⟩
        rw [e1, decide_eq_true h2, Bool.true_and] at q'
        exact q'
      · have h2 : ¬ x.1 = 0 := by
          simp at h2
          omega
        rw [e1, decide_eq_false h2, Bool.false_and] at q'
        exact q'
    · have h1 : ¬ c < l.length := by
        simp [ht2] at h1
        omega
      rw [show digAt l c = false by rw [digAt, List.getElem?_eq_none (by omega)]] at q'
      exact q'
  cases hb : digAt l c with
  | true =>
    have h1 : c < l.length := by
      by_cases z : c < l.length
      · exact z
      · rw [show digAt l c = false by rw [digAt, List.getElem?_eq_none (by omega)]] at hb
        cases hb
    obtain ⟨n, rfl⟩ : ∃ n', n = n' + 1 := ⟨n - 1, by omega⟩; rw [digEnd, if_pos hb] at hd
    refine ⟨fun σ' H' => ∃ m', m' < l.length - c ∧ H' = Hc ∧ ∃ c n : Nat, m' = l.length - c ∧ σ' = [some (.ref e), some (.int p), some (.int (c : Nat))] ∧ l.length ≤ c + n ∧ digEnd l n c = digitsEnd l p, fun _ _ z => z, ?_⟩
    exact ⟨_, rfl, _, _, rfl, rfl, l.length - (c + 1), by omega, rfl, c + 1, n, rfl, rfl, by omega, hd⟩
  | false =>
    have e1 : c = digitsEnd l p := by
      rw [← hd]
      cases n with
      | zero => rfl
      | succ n => rw [digEnd, if_neg (by rw [hb]; exact Bool.false_ne_true)]
    subst e1
    exact ⟨_, rfl, q⟩
theorem digEnd_ge (l : List Pc) : ∀ n p, p ≤ digEnd l n p
  | 0, p => Nat.le_refl _
  | n + 1, p => by
    unfold digEnd
    split
    · exact Nat.le_of_succ_le (digEnd_ge l n (p + 1))
    · exact Nat.le_refl _
theorem digitsEnd_ge (l : List Pc) (p : Nat) : p ≤ digitsEnd l p := digEnd_ge l _ p
theorem ansP_use {t : TT} {σ : L2.St} {H : Hp} {b : Bool} {P : Hp → Prop} {Q : Bool → Hp → Prop} (h : ∀ Q : Bool → Hp → Prop, (∀ H', P H' → Q b H') → t σ H Q) (q : ∀ H', P H' → Q b H') : t σ H Q := h Q q
theorem markAt_lt {l : List Pc} {p m : Nat} (h : markAt l p m = true) : p < l.length := by
  obtain ⟨z, _⟩ := List.getElem?_eq_some_iff.mp (of_decide_eq_true h)
  exact z
/-- whole_end -/
def grpEnd (l : List Pc) (g : Nat) : Nat → Nat → Nat
  | 0, p => p
  | n + 1, p => if markAt l p g = true ∧ digitsEnd l (p + 1) = p + 4 then grpEnd l g n (p + 4) else p
def wholeEnd (l : List Pc) (p g : Nat) : Nat := if 3 < digitsEnd l p - p then digitsEnd l p else grpEnd l g l.length (digitsEnd l p)
def spWhE (K : PySem.W.Frag) : Sp := fun vs H Q E => ∃ (e : Addr) (l : List Pc) (p g : Nat), vs = [.ref e, .int p, .int g] ∧ PL H e l ∧ ∀ H', Sm K H H' → Q (.int (wholeEnd l p g : Nat)) H'
theorem ok_whole_end (T : Txt K mg) : FnOk P w K mg base CX0 3 (ga K "whole_end") (fd K "whole_end") ["pieces", "start", "group"] (spWhE K) := by
  refine T.d_whole_end.fn.ok sc_whole_end (fun vs H Q E h => by obtain ⟨_, _, _, _, rfl, _⟩ := h; rfl) fun cdv A outer s H vs Q E hr h => ?_
  refine ⟨_, (pss_cons (ps_set (i := 3) sc_whole_end.nd rfl (by first | exact Or.inl rfl | exact Or.inr rfl) (pe_call (ok_digits_end T) (hr.mono (by decide)) rfl T.d_digits_end.g T.d_digits_end.k T.d_digits_end.b .nil pass0 (pa_cons (pv 0) (pa_cons (pv 1) pa_nil)))) (pss_cons (ps_if (pt_cmpR op_gt (pe_op op_sub (pv 3) (pv 1)) (pe_gi rfl T.i_MOST_LEADING) (nomark _)) (pss_one (ps_ret (pv 3))) pss_nil) (pss_cons (ps_while PassesOwn.never (PW.pt (pw_and (pt_val (pe_call (ok_is_mark_at T) (hr.mono (by decide)) rfl T.d_is_mark_at.g T.d_is_mark_at.k T.d_is_mark_at.b .nil pass0 (pa_cons (pv 0) (pa_cons (pv 3) (pa_cons (pv 2) pa_nil))))) (pw_and1 (pt_cmpR op_eq (pe_call (ok_digits_end T) (hr.mono (by decide)) rfl T.d_digits_end.g T.d_digits_end.k T.d_digits_end.b .nil pass0 (pa_cons (pv 0) (pa_cons (pe_op op_add (pv 3) pe_int) pa_nil))) (pe_op op_add (pv 3) pe_int) (nomark _))))) (pss_one (ps_aug (i := 3) sc_whole_end.nd rfl (by first | exact Or.inl rfl | exact Or.inr rfl) pe_int ip_add))) (pss_one (ps_ret (pv 3)))))), ?_⟩
  obtain ⟨e, l, p, g, rfl, hP, q⟩ := h
  have hge := digitsEnd_ge l p
  refine ⟨_, rfl, _, rfl, e, l, p, rfl, hP, ?_⟩
  refine ⟨_, rfl, _, rfl, _, _, rfl, rfl, _, _, rfl, rfl, _, rfl, ite2 (fun h1 => ?_) fun h1 => ?_⟩
  · have h1 : 3 < digitsEnd l p - p := by
      simp at h1
      omega
    rw [wholeEnd, if_pos h1] at q
    exact ⟨_, rfl, q _ .refl⟩
  have h1 : ¬ 3 < digitsEnd l p - p := by
    simp at h1
    omega
  rw [wholeEnd, if_neg h1] at q
  refine ⟨fun m σ H' => Sm K H H' ∧ ∃ c n : Nat, m = l.length - c ∧ σ = [some (.ref e), some (.int p), some (.int g), some (.int (c : Nat))] ∧ l.length ≤ c + n ∧ grpEnd l g n c = grpEnd l g l.length (digitsEnd l p), ⟨_, .refl, digitsEnd l p, l.length, rfl, rfl, by omega, rfl⟩, ?_⟩
  rintro m σ Hc ⟨hs, c, n, rfl, rfl, hn, hd⟩
  refine ansP_use (b := decide (markAt l c g = true ∧ digitsEnd l (c + 1) = c + 4)) (P := Sm K H) (fun Q' q' => ?_) ?_
  · refine ⟨_, rfl, _, rfl, _, rfl, e, l, c, g, rfl, hP.sm hs, fun H2 hs2 => ⟨_, rfl, ite2 (fun h1 => ?_) fun h1 => ?_⟩⟩
    · refine ⟨_, rfl, _, rfl, _, _, rfl, rfl, e, l, c + 1, rfl, hP.sm (hs.trans hs2), _, rfl, _, _, rfl, rfl, rfl, _, rfl, ?_⟩
      have z := q' _ (hs.trans hs2)
      rw [show decide (markAt l c g = true ∧ digitsEnd l (c + 1) = c + 4) = decide (V.int (digitsEnd l (c + 1) : Nat) = V.int ((c : Int) + 4)) by
        rw [decide_eq_decide]
        constructor
        · rintro ⟨_, z⟩
          rw [z]
          rfl
        · intro z
          injection z with z
          exact ⟨h1, by omega⟩] at z
      exact z
    · have z := q' _ (hs.trans hs2)
      rw [decide_eq_false (fun y => h1 y.1)] at z
      exact z
  intro H2 hs2
  cases hb : decide (markAt l c g = true ∧ digitsEnd l (c + 1) = c + 4) with
  | true =>
    have hb := of_decide_eq_true hb
    have h2 := markAt_lt hb.1
    obtain ⟨n, rfl⟩ : ∃ n', n = n' + 1 := ⟨n - 1, by omega⟩; rw [grpEnd, if_pos hb] at hd
    refine ⟨fun σ' H' => ∃ m', m' < l.length - c ∧ Sm K H H' ∧ ∃ c n : Nat, m' = l.length - c ∧ σ' = [some (.ref e), some (.int p), some (.int g), some (.int (c : Nat))] ∧ l.length ≤ c + n ∧ grpEnd l g n c = grpEnd l g l.length (digitsEnd l p), fun _ _ z => z, ?_⟩
    exact ⟨_, rfl, _, _, rfl, rfl, l.length - (c + 4), by omega, hs2, c + 4, n, rfl, rfl, by omega, hd⟩
  | false =>
    have hb := of_decide_eq_false hb
    have e1 : c = grpEnd l g l.length (digitsEnd l p) := by
      rw [← hd]
      cases n with
      | zero => rfl
      | succ n => rw [grpEnd, if_neg hb]
    rw [← e1] at q
    exact ⟨_, rfl, q _ hs2⟩
/-- fraction_end -/
def fracEnd (l : List Pc) (p d : Nat) : Nat := if markAt l p d = true ∧ p + 1 < digitsEnd l (p + 1) then digitsEnd l (p + 1) else p
def spFrE (K : PySem.W.Frag) : Sp := fun vs H Q E => ∃ (e : Addr) (l : List Pc) (p d : Nat), vs = [.ref e, .int p, .int d] ∧ PL H e l ∧ ∀ H', Sm K H H' → Q (.int (fracEnd l p d : Nat)) H'
theorem ok_fraction_end (T : Txt K mg) : FnOk P w K mg base CX0 3 (ga K "fraction_end") (fd K "fraction_end") ["pieces", "start", "decimal"] (spFrE K) := by
  refine T.d_fraction_end.fn.ok sc_fraction_end (fun vs H Q E h => by obtain ⟨_, _, _, _, rfl, _⟩ := h; rfl) fun cdv A outer s H vs Q E hr h => ?_
  refine ⟨_, (pss_cons (ps_if (pt_val (pe_call (ok_is_mark_at T) (hr.mono (by decide)) rfl T.d_is_mark_at.g T.d_is_mark_at.k T.d_is_mark_at.b .nil pass0 (pa_cons (pv 0) (pa_cons (pv 1) (pa_cons (pv 2) pa_nil))))) (pss_cons (ps_set (i := 3) sc_fraction_end.nd rfl (by first | exact Or.inl rfl | exact Or.inr rfl) (pe_call (ok_digits_end T) (hr.mono (by decide)) rfl T.d_digits_end.g T.d_digits_end.k T.d_digits_end.b .nil pass0 (pa_cons (pv 0) (pa_cons (pe_op op_add (pv 1) pe_int) pa_nil)))) (pss_one (ps_if (pt_cmpR op_gt (pv 3) (pe_op op_add (pv 1) pe_int) (nomark _)) (pss_one (ps_ret (pv 3))) pss_nil))) pss_nil) (pss_one (ps_ret (pv 1)))), ?_⟩
  obtain ⟨e, l, p, d, rfl, hP, q⟩ := h
  refine ⟨_, rfl, _, rfl, _, rfl, e, l, p, d, rfl, hP, fun H2 hs2 => ⟨_, rfl, ite2 (fun h1 => ?_) fun h1 => ?_⟩⟩
  · refine ⟨_, rfl, _, rfl, _, _, rfl, rfl, e, l, p + 1, rfl, hP.sm hs2, ?_⟩
    refine ⟨_, rfl, _, rfl, _, _, rfl, rfl, _, _, rfl, rfl, _, rfl, ite2 (fun h2 => ?_) fun h2 => ?_⟩
    · have h2 : p + 1 < digitsEnd l (p + 1) := by
        simp at h2
        omega
      rw [fracEnd, if_pos ⟨h1, h2⟩] at q
      exact ⟨_, rfl, q _ hs2⟩
    · have h2 : ¬ p + 1 < digitsEnd l (p + 1) := by
        simp at h2
        omega
      rw [fracEnd, if_neg (fun z => h2 z.2)] at q
      exact ⟨_, rfl, q _ hs2⟩
  · rw [fracEnd, if_neg (fun z => h1 z.1)] at q
    exact ⟨_, rfl, q _ hs2⟩
/-- digits_of -/
def digsOf (l : List Pc) : List Nat := (l.filter fun x => digit x.2).map (·.2)
def spDgO (K : PySem.W.Frag) : Sp := fun vs H Q E => ∃ (e : Addr) (l : List Pc), vs = [.ref e] ∧ PL H e l ∧ l.length ≤ 4096 ∧ ∀ H' L, Sm K H H' → H' L = some (.lst (nv (digsOf l))) → Q (.ref L) H'
theorem ok_digits_of (T : Txt K mg) : FnOk P w K mg base CX0 2 (ga K "digits_of") (fd K "digits_of") ["pieces"] (spDgO K) := by
  refine T.d_digits_of.fn.ok sc_digits_of (fun vs H Q E h => by obtain ⟨_, _, rfl, _⟩ := h; rfl) fun cdv A outer s H vs Q E hr h => ?_
  refine ⟨_, (pss_one (ps_ret (pe_lc rfl sc_digits_of.nd (pi_list (pv 0)) (blkOk_by (own := [("kind", 2), ("value", 1)]) (by show blkC ["pieces","value","kind"] (defScope s_digits_of) _ _ = true; decide +kernel)) (fun _ _ _ _ _ => by exact (Tl.pgT (K := K) (n := 2) rfl rfl (pgs_cons (pg_name (i := 2) sc_digits_of.nd rfl (by first | exact Or.inl rfl | exact Or.inr rfl)) (pgs_cons (pg_name (i := 1) sc_digits_of.nd rfl (by first | exact Or.inl rfl | exact Or.inr rfl)) pgs_nil)))) (fun _ _ _ _ _ => by exact (pts_one (pt_val (pe_call (ok_is_digit T) (hr.mono (by decide)) rfl T.d_is_digit.g T.d_is_digit.k T.d_is_digit.b .nil pass0 (pa_cons (pv 1) pa_nil))))) (fun _ _ _ _ _ => by exact (pv 1))))), ?_⟩
  obtain ⟨e, l, rfl, hP, hl, q⟩ := h
  obtain ⟨ts, hts, ht2, ht3⟩ := id hP
  refine ⟨_, rfl, _, rfl, ⟨_, SqL.of hts⟩, fun D hD => lc_it walk_list (fun i H' => Sm K H H' ∧ H' D = some (.lst (nv (digsOf (l.take i))))) ⟨.new hD, upd_same⟩ (fun i H' _ z => z.1.l (SqL.of hts)) ?_ ?_⟩
  · rintro i y H2 H3 hi ⟨hs, hD2⟩ ⟨rfl, e2⟩
    rw [List.length_map, ht2] at hi
    obtain ⟨x, hx⟩ := lt_some hi
    obtain ⟨t, hti, hT⟩ := PL.get hP hts hi
    rw [pcAt_eq hx] at hT
    rw [List.getElem?_map, hti] at e2
    cases e2
    refine ⟨t, _, rfl, SqT.of (hs.at hT), rfl, _, _, rfl, _, _, rfl, rfl, rfl, ?_⟩
    have e3 : digsOf (l.take (i + 1)) = digsOf (l.take i) ++ if digit x.2 = true then [x.2] else [] := by
      unfold digsOf
      rw [List.take_add_one, hx, List.filter_append, List.map_append]
      by_cases h : digit x.2 = true <;> simp [h]
    refine ⟨_, rfl, x.2, rfl, _, rfl, ite2 (fun h1 => ?_) fun h1 => ?_⟩
    · refine ⟨_, rfl, _, hD2, ?_, hs.mut hD hD2 trivial, upd_same.trans ?_⟩
      · have h1 := List.length_filter_le (fun x : Pc => digit x.2) (l.take i)
        rw [List.length_take] at h1
        unfold nv digsOf
        rw [List.length_map, List.length_map]
        exact small (by omega)
      · rw [e3, if_pos h1, nv_snoc]
    · refine ⟨hs, ?_⟩
      rw [e3, if_neg h1, List.append_nil]
      exact hD2
  · rintro H2 ⟨hs, hD2⟩
    rw [List.length_map, ht2, List.take_length] at hD2
    exact q _ _ hs hD2
end Tc
namespace Tc
open PySem L2 PySem.Spec PyProof.Rows Fh FhCheck
variable {K : PySem.W.Frag} {mg : Str → Option Value} {base : Heap} {P : Program} {w : World}
/-! ### a number's value -/
def isZ (c : Nat) : Bool := c == 48
def wholeV (w : List Nat) : List Nat := if w.dropWhile isZ = [] then [48] else w.dropWhile isZ
def fracV (f : List Nat) : List Nat := (f.reverse.dropWhile isZ).reverse
/-- value_of -/
def valOf (w f : List Nat) : List Nat := wholeV w ++ if fracV f = [] then [] else 46 :: fracV f
theorem nv_app (l m : List Nat) : nv (l ++ m) = nv l ++ nv m := List.map_append
theorem cut_from {l : List Nat} {c : Nat} : cutV (nv l) (some (c : Int)) none = nv (l.drop c) := by
  unfold cutV
  rw [HT.sIx_nat, HT.sIx_none, nv_len]
  unfold nv
  rw [← List.map_drop, ← List.map_take]
  congr 1
  by_cases h : c ≤ l.length
  · rw [Nat.min_eq_left h, List.take_of_length_le (by rw [List.length_drop]; omega)]
  · rw [List.drop_eq_nil_of_le (show l.length ≤ min c l.length by omega), List.drop_eq_nil_of_le (show l.length ≤ c by omega)]
    simp
theorem cut_to {l : List Nat} {c : Nat} (h : c ≤ l.length) : cutV (nv l) none (some (c : Int)) = nv (l.take c) := by
  unfold cutV
  rw [HT.sIx_nat, HT.sIx_none, nv_len, Nat.min_eq_left h, List.drop_zero, Nat.sub_zero]
  unfold nv
  rw [← List.map_take]
def spVal (K : PySem.W.Frag) : Sp := fun vs H Q E => ∃ (a b : Addr) (w f : List Nat), vs = [.ref a, .ref b] ∧ SqL K H a (nv w) ∧ SqL K H b (nv f) ∧ w.length ≤ 4096 ∧ f.length ≤ 4096 ∧ ∀ H' t, Sm K H H' → H' t = some (.tup (nv (valOf w f))) → Q (.ref t) H'
theorem ok_value_of (T : Txt K mg) : FnOk P w K mg base CX0 1 (ga K "value_of") (fd K "value_of") ["whole", "fraction"] (spVal K) := by
  refine T.d_value_of.fn.ok sc_value_of (fun vs H Q E h => by obtain ⟨_, _, _, _, rfl, _⟩ := h; rfl) fun cdv A outer s H vs Q E hr h => ?_
  refine ⟨_, (pss_cons (ps_set (i := 2) sc_value_of.nd rfl (by first | exact Or.inl rfl | exact Or.inr rfl) pe_int) (pss_cons (ps_while PassesOwn.never (PW.pt (pw_and (pt_cmpR op_lt (pv 2) (pe_callB call_len (by rfl) T.n_len (by decide +kernel) (pa_cons (pv 0) pa_nil)) (nomark _)) (pw_and1 (pt_cmpR op_eq (pe_ix ix_list (pv 0) (pv 2) (fun _ _ => rfl)) (pe_gi rfl T.i_ZERO) (nomark _))))) (pss_one (ps_aug (i := 2) sc_value_of.nd rfl (by first | exact Or.inl rfl | exact Or.inr rfl) pe_int ip_add))) (pss_cons (ps_set (i := 3) sc_value_of.nd rfl (by first | exact Or.inl rfl | exact Or.inr rfl) (pe_callB call_len (by rfl) T.n_len (by decide +kernel) (pa_cons (pv 1) pa_nil))) (pss_cons (ps_while PassesOwn.never (PW.pt (pw_and (pt_cmpR op_gt (pv 3) pe_int (nomark _)) (pw_and1 (pt_cmpR op_eq (pe_ix ix_list (pv 1) (pe_op op_sub (pv 3) pe_int) (fun _ _ => rfl)) (pe_gi rfl T.i_ZERO) (nomark _))))) (pss_one (ps_aug (i := 3) sc_value_of.nd rfl (by first | exact Or.inl rfl | exact Or.inr rfl) pe_int ip_sub))) (pss_cons (ps_set (i := 4) sc_value_of.nd rfl (by first | exact Or.inl rfl | exact Or.inr rfl) (pe_ifExp (pt_cmpR op_lt (pv 2) (pe_callB call_len (by rfl) T.n_len (by decide +kernel) (pa_cons (pv 0) pa_nil)) (nomark _)) (pe_slice sl_list (pv 0) (po_some (pv 2)) po_none) (pe_lst (pa_cons (pe_gi rfl T.i_ZERO) pa_nil)))) (pss_cons (ps_if (pt_cmpR op_gt (pv 3) pe_int (nomark _)) (pss_one (ps_set (i := 4) sc_value_of.nd rfl (by first | exact Or.inl rfl | exact Or.inr rfl) (pe_op op_cat (pe_op op_cat (pv 4) (pe_lst (pa_cons (pe_gi rfl T.i_POINT) pa_nil))) (pe_slice sl_list (pv 1) po_none (po_some (pv 3)))))) pss_nil) (pss_one (ps_ret (pe_callTy call_tuple_of (by rfl) T.n_tuple (by decide +kernel) (pa_cons (pv 4) pa_nil)))))))))), ?_⟩
  obtain ⟨a, b, w1, f1, rfl, hA, hB, hw, hf, q⟩ := h
  refine ⟨fun m σ H' => H' = H ∧ ∃ c : Nat, m = w1.length - c ∧ c ≤ w1.length ∧ σ = [some (.ref a), some (.ref b), some (.int (c : Nat)), none, none] ∧ (w1.drop c).dropWhile isZ = w1.dropWhile isZ, ⟨_, rfl, 0, rfl, by omega, rfl, rfl⟩, ?_⟩
  rintro m σ Hc ⟨rfl, c, rfl, hc, rfl, hd⟩
  refine ans_use (b := decide (w1[c]? = some 48)) (fun Q' q' => ?_) ?_
  · refine ⟨_, rfl, _, rfl, _, _, rfl, len_l hA, _, _, rfl, rfl, _, rfl, ite2 (fun h1 => ?_) fun h1 => ?_⟩
    · rw [nv_len] at h1
      obtain ⟨x, hx⟩ := lt_some (l := w1) (i := c) (by simp at h1; omega)
      refine ⟨_, rfl, _, rfl, _, _, _, _, rfl, rfl, hA, nv_at hx, rfl, _, rfl, ?_⟩
      rw [hx, show decide (some x = some 48) = decide (V.int (x : Nat) = V.int 48) by
        rw [decide_eq_decide, Option.some_inj]
        constructor
        · rintro rfl
          rfl
        · intro z
          injection z with z
          omega] at q'
      exact q'
    · rw [nv_len] at h1
      rw [List.getElem?_eq_none (by simp at h1; omega)] at q'
      exact q'
  cases hb : decide (w1[c]? = some 48) with
  | true =>
    have hb := of_decide_eq_true hb
    obtain ⟨hlt, _⟩ := List.getElem?_eq_some_iff.mp hb
    refine ⟨fun σ' H' => ∃ m', m' < w1.length - c ∧ H' = Hc ∧ ∃ c : Nat, m' = w1.length - c ∧ c ≤ w1.length ∧ σ' = [some (.ref a), some (.ref b), some (.int (c : Nat)), none, none] ∧ (w1.drop c).dropWhile isZ = w1.dropWhile isZ, fun _ _ z => z, ?_⟩
    refine ⟨_, rfl, _, _, rfl, rfl, w1.length - (c + 1), by omega, rfl, c + 1, rfl, by omega, rfl, ?_⟩
    rw [← hd, List.drop_eq_getElem_cons hlt, List.dropWhile_cons_of_pos]
    obtain ⟨_, z⟩ := List.getElem?_eq_some_iff.mp hb
    rw [z]
    rfl
  | false =>
    have hb := of_decide_eq_false hb
    have ew : w1.drop c = w1.dropWhile isZ := by
      rw [← hd]
      by_cases hlt : c < w1.length
      · rw [List.drop_eq_getElem_cons hlt, List.dropWhile_cons_of_neg]
        intro z
        refine hb ?_
        rw [List.getElem?_eq_getElem hlt, Option.some_inj]
        exact beq_iff_eq.mp z
      · rw [List.drop_eq_nil_of_le (by omega)]
        rfl
    refine ⟨_, rfl, _, _, rfl, len_l hB, ?_⟩
    rw [nv_len]
    refine ⟨fun m σ H' => H' = Hc ∧ ∃ d : Nat, m = d ∧ d ≤ f1.length ∧ σ = [some (.ref a), some (.ref b), some (.int (c : Nat)), some (.int (d : Nat)), none] ∧ (f1.take d).reverse.dropWhile isZ = f1.reverse.dropWhile isZ, ⟨_, rfl, f1.length, rfl, Nat.le_refl _, rfl, by rw [List.take_length]⟩, ?_⟩
    rintro m σ H2 ⟨rfl, d, rfl, hdl, rfl, hd2⟩
    refine ans_use (b := decide (0 < m ∧ f1[m - 1]? = some 48)) (fun Q' q' => ?_) ?_
    · refine ⟨_, rfl, _, _, rfl, rfl, _, rfl, ite2 (fun h1 => ?_) fun h1 => ?_⟩
      · have h1 : 0 < m := by
          simp at h1
          omega
        obtain ⟨x, hx⟩ := lt_some (l := f1) (i := m - 1) (by omega)
        refine ⟨_, rfl, _, rfl, _, _, rfl, rfl, _, _, _, V.int (x : Nat), rfl, rfl, hB, by rw [show (m : Int) - 1 = ((m - 1 : Nat) : Int) by omega]; exact nv_at hx, rfl, _, rfl, ?_⟩
        rw [hx, show decide (0 < m ∧ some x = some 48) = decide (V.int (x : Nat) = V.int 48) by
          rw [decide_eq_decide, Option.some_inj]
          constructor
          · rintro ⟨_, rfl⟩
            rfl
          · intro z
            injection z with z
            exact ⟨h1, by omega⟩] at q'
        exact q'
      · have h1 : ¬ 0 < m := by
          simp at h1
          omega
        rw [decide_eq_false (fun z => h1 z.1)] at q'
        exact q'
    cases hb2 : decide (0 < m ∧ f1[m - 1]? = some 48) with
    | true =>
      obtain ⟨hm, hb2⟩ := of_decide_eq_true hb2
      obtain ⟨hlt, hx⟩ := List.getElem?_eq_some_iff.mp hb2
      refine ⟨fun σ' H' => ∃ m', m' < m ∧ H' = H2 ∧ ∃ d : Nat, m' = d ∧ d ≤ f1.length ∧ σ' = [some (.ref a), some (.ref b), some (.int (c : Nat)), some (.int (d : Nat)), none] ∧ (f1.take d).reverse.dropWhile isZ = f1.reverse.dropWhile isZ, fun _ _ z => z, ?_⟩
      refine ⟨_, rfl, _, _, rfl, rfl, m - 1, by omega, rfl, m - 1, rfl, by omega, ?_, ?_⟩
      · show [_, _, _, some (V.int ((m : Int) - 1)), _] = _
        rw [show (m : Int) - 1 = ((m - 1 : Nat) : Int) by omega]
      · rw [← hd2]
        obtain ⟨m, rfl⟩ : ∃ m', m = m' + 1 := ⟨m - 1, by omega⟩
        have hlt : m < f1.length := hlt
        have hx : f1[m] = 48 := hx
        show List.dropWhile isZ (f1.take m).reverse = _
        rw [List.take_add_one, List.getElem?_eq_getElem hlt, hx, List.reverse_append]
        rfl
    | false =>
      have hb2 := of_decide_eq_false hb2
      have ef : fracV f1 = f1.take m := by
        unfold fracV
        rw [← hd2]
        cases m with
        | zero => rfl
        | succ m =>
          have hlt : m < f1.length := by omega
          rw [List.take_add_one, List.getElem?_eq_getElem hlt, List.reverse_append]
          show (List.dropWhile isZ (f1[m] :: (f1.take m).reverse)).reverse = _
          rw [List.dropWhile_cons_of_neg]
          · rw [List.reverse_cons, List.reverse_reverse]
            rfl
          · intro z
            refine hb2 ⟨Nat.succ_pos _, ?_⟩
            rw [Nat.add_sub_cancel, List.getElem?_eq_getElem hlt, Option.some_inj]
            exact beq_iff_eq.mp z
      have lf : (fracV f1).length = m := by rw [ef, List.length_take]; omega
      refine iteF ?_
      dsimp only [tSeq]
      refine asg_use (P := fun v H' => ∃ L, v = .ref L ∧ Sm K H2 H' ∧ H' L = some (.lst (nv (wholeV w1)))) (fun Q' q' => ?_) ?_
      · refine ⟨_, rfl, _, rfl, _, _, rfl, len_l hA, _, _, rfl, rfl, _, rfl, ite2 (fun h1 => ?_) fun h1 => ?_⟩
        · have h1 : c < w1.length := by
            rw [nv_len] at h1
            simp at h1
            omega
          refine ⟨_, rfl, _, rfl, _, rfl, a, _, rfl, hA, fun p hp => q' _ _ ⟨p, rfl, .new hp, upd_same.trans ?_⟩⟩
          rw [cut_from, ew, wholeV, if_neg]
          rw [← ew, List.drop_eq_nil_iff]
          omega
        · have h1 : ¬ c < w1.length := by
            rw [nv_len] at h1
            simp at h1
            omega
          refine ⟨by show 1 ≤ sizeLine; decide, fun p hp => q' _ _ ⟨p, rfl, .new hp, upd_same.trans ?_⟩⟩
          rw [wholeV, if_pos (by rw [← ew, List.drop_eq_nil_of_le (by omega)])]
          rfl
      rintro v H3 ⟨L, rfl, hs3, hL⟩
      have lw : (wholeV w1).length ≤ 4096 := by
        unfold wholeV
        split
        · decide
        · rw [← ew, List.length_drop]
          omega
      dsimp only [tSeq, gName]
      refine nx_use (P := fun σ' H' => ∃ L, σ' = [some (.ref a), some (.ref b), some (.int (c : Nat)), some (.int (m : Nat)), some (.ref L)] ∧ Sm K H2 H' ∧ H' L = some (.lst (nv (valOf w1 f1)))) (fun N hN => ?_) ?_
      · refine ⟨_, rfl, _, _, rfl, rfl, _, rfl, ite2 (fun h1 => ?_) fun h1 => ?_⟩
        · have h1 : 0 < m := by
            simp at h1
            omega
          refine ⟨_, rfl, by show 1 ≤ sizeLine; decide, fun p hp => ⟨L, p, _, _, rfl, rfl, (Sm.new (K := K) hp).at hL, upd_same, ?_, fun p2 hp2 => ?_⟩⟩
          · rw [nv_len]
            exact Nat.le_of_lt (small (by show (wholeV w1).length + 1 < 6000; omega))
          have s4 := (hs3.trans (Sm.new (K := K) (o := .lst [.int 46]) hp)).trans (Sm.new (o := .lst (nv (wholeV w1) ++ [.int 46])) hp2)
          refine ⟨_, rfl, _, rfl, _, rfl, b, _, rfl, s4.l hB, fun p3 hp3 => ⟨p2, p3, _, _, rfl, rfl, (Sm.new (K := K) hp3).at upd_same, upd_same, ?_, fun p4 hp4 => hN _ _ ⟨p4, rfl, s4.trans ((Sm.new hp3).trans (.new hp4)), upd_same.trans ?_⟩⟩⟩
          · rw [cut_to hdl, List.length_append, nv_len, nv_len, List.length_take]
            exact Nat.le_of_lt (Nat.lt_of_lt_of_le (show (wholeV w1).length + 1 + min m f1.length < 9000 by omega) (by decide))
          · rw [cut_to hdl, valOf, if_neg (fun z => by rw [z] at lf; simp at lf; omega), ef, nv_app, List.append_assoc]
            rfl
        · have h1 : m = 0 := by
            simp at h1
            omega
          refine hN _ _ ⟨L, rfl, hs3, ?_⟩
          rw [valOf, if_pos (List.length_eq_zero_iff.mp (by omega)), List.append_nil]
          exact hL
      rintro σ' H4 ⟨L2, rfl, hs4, hL2⟩
      exact ⟨_, rfl, L2, _, rfl, .inl ⟨SqL.of hL2, fun t ht => q _ _ (hs4.trans (.new ht)) upd_same⟩⟩
end Tc
namespace Tc
open PySem L2 PySem.Spec PyProof.Rows Fh FhCheck
variable {K : PySem.W.Frag} {mg : Str → Option Value} {base : Heap} {P : Program} {w : World}
/-! ### figures -/
abbrev Fg : Type := Nat × Nat × List Nat
/-- a list of figures -/
def FL (H : Hp) (e : Addr) (l : List Fg) : Prop := ∃ ts : List (Addr × Addr), H e = some (.lst (ts.map fun t => V.ref t.1)) ∧ ts.length = l.length ∧ ∀ (i : Nat) (x : Fg), l[i]? = some x → ∃ t, ts[i]? = some t ∧ H t.1 = some (.tup [.int (x.1 : Nat), .int (x.2.1 : Nat), .ref t.2]) ∧ H t.2 = some (.tup (nv x.2.2))
theorem FL.keep {H H' : Hp} {e : Addr} {l : List Fg} (h : FL H e l) (k1 : ∀ o, H e = some (.lst o) → H' e = some (.lst o)) (k2 : ∀ t xs, H t = some (.tup xs) → H' t = some (.tup xs)) : FL H' e l := by
  obtain ⟨ts, h1, h2, h3⟩ := h
  refine ⟨ts, k1 _ h1, h2, fun i x hx => ?_⟩
  obtain ⟨t, a, b, c⟩ := h3 i x hx
  exact ⟨t, a, k2 _ _ b, k2 _ _ c⟩
theorem FL.sm {H H' : Hp} {e : Addr} {l : List Fg} (h : FL H e l) (s : Sm K H H') : FL H' e l := h.keep (fun _ z => s.at z) fun _ _ z => s.at z
theorem FL.snoc {H : Hp} {e t v : Addr} {l : List Fg} {xs : List V} {x : Fg} (h : FL H e l) (he : H e = some (.lst xs)) (ht : H t = some (.tup [.int (x.1 : Nat), .int (x.2.1 : Nat), .ref v])) (hv : H v = some (.tup (nv x.2.2))) : FL (upd H e (.lst (xs ++ [.ref t]))) e (l ++ [x]) := by
  obtain ⟨ts, h1, h2, h3⟩ := h
  rw [he] at h1
  injection h1 with h1
  injection h1 with h1
  have kp : ∀ u ys, H u = some (.tup ys) → upd H e (.lst (xs ++ [.ref t])) u = some (.tup ys) := fun u ys z => by
    rw [upd_ne (ne_of z he fun y => by cases y)]
    exact z
  refine ⟨ts ++ [(t, v)], by rw [upd_same, h1, List.map_append]; rfl, by simp [h2], fun i y hy => ?_⟩
  by_cases hi : i < l.length
  · rw [List.getElem?_append_left hi] at hy
    obtain ⟨u, q1, q2, q3⟩ := h3 i y hy
    exact ⟨u, by rw [List.getElem?_append_left (by omega)]; exact q1, kp _ _ q2, kp _ _ q3⟩
  · rw [List.getElem?_append_right (by omega)] at hy
    have : i - l.length = 0 := by
      obtain ⟨z, _⟩ := List.getElem?_eq_some_iff.mp hy
      simp at z
      omega
    rw [this] at hy
    cases hy
    exact ⟨(t, v), by rw [List.getElem?_append_right (by omega), h2, this]; rfl, kp _ _ ht, kp _ _ hv⟩
theorem cut_mid {xs : List V} {p m : Nat} : cutV xs (some (p : Int)) (some (m : Int)) = (xs.drop p).take (m - p) := by
  unfold cutV
  rw [HT.sIx_nat, HT.sIx_nat]
  by_cases h : p ≤ xs.length
  · rw [Nat.min_eq_left h]
    by_cases h2 : m ≤ xs.length
    · rw [Nat.min_eq_left h2]
    · rw [Nat.min_eq_right (by omega), List.take_of_length_le (by rw [List.length_drop]; omega), List.take_of_length_le (by rw [List.length_drop]; omega)]
  · rw [List.drop_eq_nil_of_le (show xs.length ≤ min p xs.length by omega), List.drop_eq_nil_of_le (show xs.length ≤ p by omega)]
    simp
theorem PL.cut {H : Hp} {e pa : Addr} {l : List Pc} {ts : List Addr} {p m : Nat} (h : PL H e l) (he : H e = some (.lst (ts.map V.ref))) (hn : H pa = none) : PL (upd H pa (.lst (((ts.map V.ref).drop p).take m))) pa ((l.drop p).take m) := by
  obtain ⟨ts', h1, h2, h3⟩ := h
  rw [he] at h1
  have e1 : ts = ts' := by
    injection h1 with h1
    injection h1 with h1
    exact (List.map_inj_right fun a b z => by injection z).mp h1
  subst e1
  refine ⟨(ts.drop p).take m, by rw [upd_same, List.map_take, List.map_drop], by rw [List.length_take, List.length_take, List.length_drop, List.length_drop, h2], fun i x hx => ?_⟩
  by_cases hi : i < m
  · rw [List.getElem?_take_of_lt hi, List.getElem?_drop] at hx
    obtain ⟨t, a, b⟩ := h3 _ x hx
    exact ⟨t, by rw [List.getElem?_take_of_lt hi, List.getElem?_drop]; exact a, by rw [upd_ne (ne_of_none b hn)]; exact b⟩
  · rw [List.getElem?_take_eq_none (by omega)] at hx
    cases hx
theorem grpEnd_ge (l : List Pc) (g : Nat) : ∀ n p, p ≤ grpEnd l g n p
  | 0, p => Nat.le_refl _
  | n + 1, p => by
    unfold grpEnd
    split
    · exact Nat.le_trans (by omega) (grpEnd_ge l g n (p + 4))
    · exact Nat.le_refl _
theorem wholeEnd_ge (l : List Pc) (p g : Nat) : digitsEnd l p ≤ wholeEnd l p g := by
  unfold wholeEnd
  split
  · exact Nat.le_refl _
  · exact grpEnd_ge l g _ _
theorem fracEnd_ge (l : List Pc) (p d : Nat) : p ≤ fracEnd l p d := by
  unfold fracEnd
  split
  · omega
  · exact Nat.le_refl _
def figAt (l : List Pc) (d g p : Nat) : Fg := (p, fracEnd l (wholeEnd l p g) d, valOf (digsOf ((l.drop p).take (wholeEnd l p g - p))) (digsOf ((l.drop (wholeEnd l p g)).take (fracEnd l (wholeEnd l p g) d - wholeEnd l p g))))
def figGo (l : List Pc) (d g : Nat) : Nat → Nat → List Fg
  | 0, _ => []
  | n + 1, p => if p < l.length then (if digitsEnd l p = p then figGo l d g n (p + 1) else figAt l d g p :: figGo l d g n (figAt l d g p).2.1) else []
/-- find_figures -/
def figs (l : List Pc) (d g : Nat) : List Fg := figGo l d g l.length 0
theorem digsOf_len (l : List Pc) : (digsOf l).length ≤ l.length := by
  unfold digsOf
  rw [List.length_map]
  exact List.length_filter_le _ _
def spFigs (K : PySem.W.Frag) : Sp := fun vs H Q E => ∃ (r mk : Addr) (l : List Pc) (d g : Nat), vs = [.ref r, .ref mk] ∧ RowAt K H r l ∧ T2 H mk (d, g) ∧ l.length ≤ 4096 ∧ ∀ H' L, Sm K H H' → FL H' L (figs l d g) → Q (.ref L) H'
def invFig (K : PySem.W.Frag) (H : Hp) (r mk pa fl : Addr) (l : List Pc) (d g : Nat) (m : Nat) (σ : L2.St) (Hc : Hp) : Prop :=
  ∃ (acc : List Fg) (p n : Nat) (o1 o2 o3 : Option V), m = l.length - p ∧ σ = [some (.ref r), some (.ref mk), some (.int d), some (.int g), some (.ref pa), some (.ref fl), some (.int (p : Nat)), o1, o2, o3] ∧ Sm K H Hc ∧ FL Hc fl acc ∧ acc.length ≤ p ∧ l.length ≤ p + n ∧ acc ++ figGo l d g n p = figs l d g
theorem ok_find_figures (T : Txt K mg) : FnOk P w K mg base CX0 4 (ga K "find_figures") (fd K "find_figures") ["row", "marks"] (spFigs K) := by
  refine T.d_find_figures.fn.ok sc_find_figures (fun vs H Q E h => by obtain ⟨_, _, _, _, _, rfl, _⟩ := h; rfl) fun cdv A outer s H vs Q E hr h => ?_
  refine ⟨_, (pss_cons (ps_asg (pv 1) (pg_tup rfl (pgs_cons (pg_name (i := 2) sc_find_figures.nd rfl (by first | exact Or.inl rfl | exact Or.inr rfl)) (pgs_cons (pg_name (i := 3) sc_find_figures.nd rfl (by first | exact Or.inl rfl | exact Or.inr rfl)) pgs_nil)))) (pss_cons (ps_set (i := 4) sc_find_figures.nd rfl (by first | exact Or.inl rfl | exact Or.inr rfl) (pe_fld (pv 0) rfl)) (pss_cons (ps_set (i := 5) sc_find_figures.nd rfl (by first | exact Or.inl rfl | exact Or.inr rfl) (pe_lst pa_nil)) (pss_cons (ps_set (i := 6) sc_find_figures.nd rfl (by first | exact Or.inl rfl | exact Or.inr rfl) pe_int) (pss_cons (ps_while PassesOwn.never (pt_cmpR op_lt (pv 6) (pe_callB call_len (by rfl) T.n_len (by decide +kernel) (pa_cons (pv 4) pa_nil)) (nomark _)) (pss_one (ps_if (pt_cmpR op_eq (pe_call (ok_digits_end T) (hr.mono (by decide)) rfl T.d_digits_end.g T.d_digits_end.k T.d_digits_end.b .nil pass0 (pa_cons (pv 4) (pa_cons (pv 6) pa_nil))) (pv 6) (nomark _)) (pss_one (ps_aug (i := 6) sc_find_figures.nd rfl (by first | exact Or.inl rfl | exact Or.inr rfl) pe_int ip_add)) (pss_cons (ps_set (i := 7) sc_find_figures.nd rfl (by first | exact Or.inl rfl | exact Or.inr rfl) (pe_call (ok_whole_end T) (hr.mono (by decide)) rfl T.d_whole_end.g T.d_whole_end.k T.d_whole_end.b .nil pass0 (pa_cons (pv 4) (pa_cons (pv 6) (pa_cons (pv 3) pa_nil))))) (pss_cons (ps_set (i := 8) sc_find_figures.nd rfl (by first | exact Or.inl rfl | exact Or.inr rfl) (pe_call (ok_fraction_end T) (hr.mono (by decide)) rfl T.d_fraction_end.g T.d_fraction_end.k T.d_fraction_end.b .nil pass0 (pa_cons (pv 4) (pa_cons (pv 7) (pa_cons (pv 2) pa_nil))))) (pss_cons (ps_set (i := 9) sc_find_figures.nd rfl (by first | exact Or.inl rfl | exact Or.inr rfl) (pe_call (ok_value_of T) (hr.mono (by decide)) rfl T.d_value_of.g T.d_value_of.k T.d_value_of.b .nil pass0 (pa_cons (pe_call (ok_digits_of T) (hr.mono (by decide)) rfl T.d_digits_of.g T.d_digits_of.k T.d_digits_of.b .nil pass0 (pa_cons (pe_slice sl_list (pv 4) (po_some (pv 6)) (po_some (pv 7))) pa_nil)) (pa_cons (pe_call (ok_digits_of T) (hr.mono (by decide)) rfl T.d_digits_of.g T.d_digits_of.k T.d_digits_of.b .nil pass0 (pa_cons (pe_slice sl_list (pv 4) (po_some (pv 7)) (po_some (pv 8))) pa_nil)) pa_nil)))) (pss_cons (ps_expr (pe_bm PySem.F.plainAttrs_list PySem.F.slot_list_append PySem.F.type_list_append mt_append (pv 5) (pa_cons (pe_tup (pa_cons (pv 6) (pa_cons (pv 8) (pa_cons (pv 9) pa_nil)))) pa_nil))) (pss_one (ps_set (i := 6) sc_find_figures.nd rfl (by first | exact Or.inl rfl | exact Or.inr rfl) (pv 8)))))))))) (pss_one (ps_ret (pv 5)))))))), ?_⟩
  obtain ⟨r, mk, l, d, g, rfl, hR, hM, hl, q⟩ := h
  obtain ⟨dx, pa, pl, ca, wa, hr1, hP, _⟩ := hR.ex
  obtain ⟨ts, hts, ht2, ht3⟩ := id hP
  refine ⟨_, rfl, mk, _, rfl, SqT.of hM, rfl, _, _, rfl, _, _, rfl, rfl, ?_⟩
  refine ⟨_, rfl, _, _, _, _, _, rfl, hr1, T.c_Row.cl, T.na_Row_pieces, rfl, ?_⟩
  refine ⟨by show 0 ≤ sizeLine; decide, fun fl hfl => ?_⟩
  refine ⟨invFig K H r mk pa fl l d g, ⟨_, [], 0, l.length, _, _, _, rfl, rfl, .new hfl, ⟨[], upd_same, rfl, fun i x z => by simp at z⟩, by simp, by omega, rfl⟩, ?_⟩
  rintro m σ Hc ⟨acc, p, n, o1, o2, o3, rfl, rfl, hs, hF, ha, hn, hg⟩
  have hP1 := hP.sm hs
  refine ⟨_, rfl, _, rfl, _, _, rfl, len_l (SqL.of (hs.at hts)), _, _, rfl, rfl, _, rfl, ite2 (fun h1 => ?_) fun h1 => ?_⟩
  · have h1 : p < l.length := by
      simp [ht2] at h1
      omega
    obtain ⟨n, rfl⟩ : ∃ n', n = n' + 1 := ⟨n - 1, by omega⟩; rw [figGo, if_pos h1] at hg
    refine ⟨fun σ' H' => ∃ m', m' < l.length - p ∧ invFig K H r mk pa fl l d g m' σ' H', fun _ _ z => z, ?_⟩
    refine ⟨_, rfl, _, rfl, pa, l, p, rfl, hP1, _, rfl, rfl, _, rfl, ite2 (fun h2 => ?_) fun h2 => ?_⟩
    · have h2 : digitsEnd l p = p := by
        simp at h2
        omega
      rw [if_pos h2] at hg
      exact ⟨_, rfl, _, _, rfl, rfl, l.length - (p + 1), by omega, acc, p + 1, n, _, _, _, rfl, rfl, hs, hF, by omega, by omega, hg⟩
    have h2 : ¬ digitsEnd l p = p := by
      simp at h2
      omega
    rw [if_neg h2] at hg
    have g1 := digitsEnd_ge l p
    have g2 := wholeEnd_ge l p g
    have g3 := fracEnd_ge l (wholeEnd l p g) d
    refine ⟨_, rfl, _, rfl, _, rfl, pa, l, p, g, rfl, hP1, fun H2 hs2 => ?_⟩
    have s2 := hs.trans hs2
    refine ⟨_, rfl, _, rfl, _, rfl, pa, l, wholeEnd l p g, d, rfl, hP.sm s2, fun H3 hs3 => ?_⟩
    have s3 := s2.trans hs3
    refine ⟨_, rfl, _, rfl, _, rfl, _, rfl, _, rfl, pa, _, rfl, SqL.of (s3.at hts), fun p1 hp1 => ?_⟩
    rw [cut_mid]
    have s4 := s3.trans (Sm.new (o := .lst (((ts.map V.ref).drop p).take (wholeEnd l p g - p))) hp1)
    refine ⟨p1, (l.drop p).take (wholeEnd l p g - p), rfl, (hP.sm s3).cut (s3.at hts) hp1, by rw [List.length_take, List.length_drop]; omega, fun H5 L1 hs5 hL1 => ?_⟩
    have s5 := s4.trans hs5
    refine ⟨_, rfl, _, rfl, _, rfl, _, rfl, _, rfl, pa, _, rfl, SqL.of (s5.at hts), fun p2 hp2 => ?_⟩
    rw [cut_mid]
    have s6 := s5.trans (Sm.new (o := .lst (((ts.map V.ref).drop (wholeEnd l p g)).take (fracEnd l (wholeEnd l p g) d - wholeEnd l p g))) hp2)
    refine ⟨p2, (l.drop (wholeEnd l p g)).take (fracEnd l (wholeEnd l p g) d - wholeEnd l p g), rfl, (hP.sm s5).cut (s5.at hts) hp2, by rw [List.length_take, List.length_drop]; omega, fun H7 L2 hs7 hL2 => ?_⟩
    have s7 := s6.trans hs7
    have hL1 := hs7.at ((Sm.new (K := K) hp2).at hL1)
    refine ⟨L1, L2, _, _, rfl, SqL.of hL1, SqL.of hL2, ?_, ?_, fun H8 v hs8 hv => ?_⟩
    · refine Nat.le_trans (digsOf_len _) ?_
      rw [List.length_take, List.length_drop]; omega
    · refine Nat.le_trans (digsOf_len _) ?_
      rw [List.length_take, List.length_drop]; omega
    have s8 := s7.trans hs8
    have sF : Sm K Hc H8 := hs2.trans (hs3.trans ((Sm.new hp1).trans (hs5.trans ((Sm.new hp2).trans (hs7.trans hs8)))))
    have hF := hF.sm sF
    obtain ⟨us, hus, hu2, hu3⟩ := id hF
    refine ⟨_, rfl, .inl ⟨rfl, _, SqL.of hus⟩, _, rfl, _, rfl, _, rfl, by show 3 ≤ sizeLine; decide, fun u hu => ?_⟩
    have hlw := (Sm.new (K := K) (o := .tup [.int (p : Nat), .int (fracEnd l (wholeEnd l p g) d : Nat), .ref v]) hu).at hus
    refine ⟨_, _, _, rfl, rfl, hlw, ?_, ?_⟩
    · rw [List.length_map, hu2]
      exact small (by omega)
    have hnew := FL.snoc (x := figAt l d g p) (hF.sm (.new (K := K) hu)) hlw upd_same ((Sm.new (K := K) hu).at hv)
    refine ⟨_, rfl, l.length - (figAt l d g p).2.1, ?_, acc ++ [figAt l d g p], (figAt l d g p).2.1, n, _, _, _, rfl, rfl, (s8.trans (.new hu)).mut hfl hlw trivial, hnew, ?_, ?_, by rw [List.append_assoc]; exact hg⟩
    · show l.length - fracEnd l (wholeEnd l p g) d < l.length - p
      omega
    · rw [List.length_append, List.length_singleton]
      show acc.length + 1 ≤ fracEnd l (wholeEnd l p g) d
      omega
    · show l.length ≤ fracEnd l (wholeEnd l p g) d + n
      omega
  · have h1 : ¬ p < l.length := by
      simp [ht2] at h1
      omega
    have e1 : acc = figs l d g := by
      rw [← hg]
      cases n with
      | zero => simp [figGo]
      | succ n => rw [figGo, if_neg h1, List.append_nil]
    subst e1
    exact ⟨_, rfl, q _ _ hs hF⟩
theorem rPcs_len {b : Bytes} : ∀ {n : Nat} {l : List Pc} {p : Nat} {x : List Pc × Nat}, l.length ≤ 4096 → rPcs b n l p = .ok x → x.1.length ≤ 4096
  | 0, l, p, x, hl, h => by
    cases h
    exact hl
  | n + 1, l, p, x, hl, h => by
    unfold rPcs at h
    split at h
    · split at h
      · cases h
      · obtain ⟨y, hy, h⟩ := bind_ok h
        refine rPcs_len ?_ h; rw [List.length_append, List.length_singleton]; omega
    · cases h
      exact hl
theorem rRow_len {b : Bytes} {l : List Pc} (h : rRow b = .ok l) : l.length ≤ 4096 := by
  unfold rRow rPieces at h
  obtain ⟨x, hx, h⟩ := bind_ok h
  split at h
  · cases h
  · cases h
    exact rPcs_len (by decide) hx
theorem FL.get {H : Hp} {e : Addr} {l : List Fg} {ts : List (Addr × Addr)} (h : FL H e l) (he : H e = some (.lst (ts.map fun t => V.ref t.1))) {i : Nat} {x : Fg} (hx : l[i]? = some x) : ∃ t v, ts[i]?.map (·.1) = some t ∧ H t = some (.tup [.int (x.1 : Nat), .int (x.2.1 : Nat), .ref v]) ∧ H v = some (.tup (nv x.2.2)) := by
  obtain ⟨us, h1, h2, h3⟩ := h
  rw [he] at h1
  injection h1 with h1
  injection h1 with h1
  obtain ⟨t, a, b, c⟩ := h3 i x hx
  refine ⟨t.1, t.2, ?_, b, c⟩
  have z : (ts.map fun t => V.ref t.1)[i]? = (us.map fun t => V.ref t.1)[i]? := by rw [h1]
  rw [List.getElem?_map, List.getElem?_map, a] at z
  obtain ⟨y, hy, e⟩ := Option.map_eq_some_iff.mp z
  injection e with e
  rw [hy, ← e]
  rfl
end Tc
namespace Tc
open Fh FhCheck
/-! ### plain: digits and marks in a row -/
/-- the characters from a place on that stand one right behind another -/
abbrev on (r : Row) (p : Nat) : List Nat := straightOn (r.drop p)
theorem on_cons {r : Row} {p c : Nat} (h : r[p]? = some (.char c)) : on r p = c :: on r (p + 1) := by
  unfold on
  obtain ⟨hl, e⟩ := List.getElem?_eq_some_iff.mp h; rw [List.drop_eq_getElem_cons hl, e]
  rfl
theorem on_nil {r : Row} {p : Nat} (h : ∀ c, r[p]? ≠ some (.char c)) : on r p = [] := by
  unfold on
  by_cases hl : p < r.length
  · rw [List.drop_eq_getElem_cons hl]
    have z := h
    rw [List.getElem?_eq_getElem hl] at z
    revert z
    cases r[p] with
    | char c => intro z; exact absurd rfl (z c)
    | open_ n => intro z; rfl
    | close n => intro z; rfl
    | alone n => intro z; rfl
  · rw [List.drop_eq_nil_of_le (by omega)]
    rfl
theorem on_head (r : Row) (p : Nat) : (∃ c, r[p]? = some (.char c) ∧ on r p = c :: on r (p + 1)) ∨ (on r p = [] ∧ ∀ c, r[p]? ≠ some (.char c)) := by
  cases h : r[p]? with
  | none => exact .inr ⟨on_nil (by rw [h]; intro c z; cases z), by intro c z; cases z⟩
  | some x =>
    cases x with
    | char c => exact .inl ⟨c, rfl, on_cons h⟩
    | open_ n => exact .inr ⟨on_nil (by rw [h]; intro c z; cases z), by intro c z; cases z⟩
    | close n => exact .inr ⟨on_nil (by rw [h]; intro c z; cases z), by intro c z; cases z⟩
    | alone n => exact .inr ⟨on_nil (by rw [h]; intro c z; cases z), by intro c z; cases z⟩
theorem pc_char {r : Row} {p c : Nat} : (r.map pcOf)[p]? = some (0, c) ↔ r[p]? = some (.char c) := by
  rw [List.getElem?_map]
  cases r[p]? with
  | none => simp
  | some x => cases x <;> simp [pcOf]
theorem digAt_on (r : Row) (p : Nat) : digAt (r.map pcOf) p = (match on r p with | [] => false | c :: _ => digit c) := by
  unfold digAt
  rw [List.getElem?_map]
  rcases on_head r p with ⟨c, h, e⟩ | ⟨e, h⟩
  · rw [h, e]
    rfl
  · rw [e]
    cases hr : r[p]? with
    | none => rfl
    | some x =>
      cases x with
      | char c => exact absurd hr (h c)
      | open_ n => rfl
      | close n => rfl
      | alone n => rfl
theorem markAt_on (r : Row) (p m : Nat) : markAt (r.map pcOf) p m = (match on r p with | [] => false | c :: _ => decide (c = m)) := by
  unfold markAt
  rcases on_head r p with ⟨c, h, e⟩ | ⟨e, h⟩
  · rw [e, decide_eq_decide, pc_char, h]
    simp
  · rw [e]
    exact decide_eq_false fun z => h m (pc_char.mp z)
theorem digitsEnd_on (r : Row) (p : Nat) : digitsEnd (r.map pcOf) p = p + ((on r p).takeWhile digit).length := by
  have key : ∀ n p, r.length ≤ p + n → digEnd (r.map pcOf) n p = p + ((on r p).takeWhile digit).length := by
    intro n
    induction n with
    | zero =>
      intro p h
      unfold on
      rw [List.drop_eq_nil_of_le (by omega)]
      rfl
    | succ n ih =>
      intro p h
      rw [digEnd, digAt_on]
      rcases on_head r p with ⟨c, h1, e⟩ | ⟨e, h1⟩
      · rw [e]
        dsimp only
        by_cases hd : digit c = true
        · rw [if_pos hd, ih _ (by omega), List.takeWhile_cons_of_pos hd, List.length_cons]
          omega
        · rw [if_neg hd, List.takeWhile_cons_of_neg hd]
          rfl
      · rw [e]
        rfl
  unfold digitsEnd
  rw [List.length_map]
  exact key _ _ (by omega)
theorem on_drop {r : Row} : ∀ {k p : Nat}, k ≤ (on r p).length → on r (p + k) = (on r p).drop k
  | 0, p, _ => rfl
  | k + 1, p, h => by
    rcases on_head r p with ⟨c, h1, e⟩ | ⟨e, h1⟩
    · rw [e, List.length_cons] at h
      rw [e, List.drop_succ_cons, ← on_drop (by omega), Nat.add_assoc, Nat.add_comm 1 k]
    · rw [e] at h
      exact absurd h (by simp)
end Tc
namespace Tc
open Fh FhCheck
/-! ### plain: the longest number -/
abbrev Cand : Type := List Nat × List Nat × List Nat
def okC (x : Cand) : Bool := match x.2.2 with
  | c :: _ => !digit c
  | [] => true
def candsOf (mark : Option Nat) (x : List Nat × List Nat) : List Cand := (x.1, [], x.2) :: (match mark, x.2 with
  | some p, c :: r => let f := r.takeWhile digit
    if c = p ∧ f ≠ [] then [(x.1, f, r.drop f.length)] else []
  | _, _ => [])
theorem numbersAt_eq (mark group : Option Nat) (l : List Nat) : numbersAt mark group l = ((wholes group l).flatMap (candsOf mark)).filter okC := rfl
def startsD : List Nat → Bool
  | c :: _ => digit c
  | [] => false
theorem okC_eq (x : Cand) : okC x = !startsD x.2.2 := by
  obtain ⟨a, b, c⟩ := x
  cases c <;> rfl
/-- behind the whole digits: the fraction, if there is one -/
def fracOf (mark : Option Nat) (x : List Nat × List Nat) : Cand := match mark, x.2 with
  | some p, c :: r => if c = p ∧ r.takeWhile digit ≠ [] then (x.1, r.takeWhile digit, r.drop (r.takeWhile digit).length) else (x.1, [], x.2)
  | _, _ => (x.1, [], x.2)
/-- groups, as many as there are -/
def greedy (g : Nat) : Nat → List Nat → List Nat → List Nat × List Nat
  | 0, d, r => (d, r)
  | f + 1, d, r => match r with
    | m :: a :: b :: c :: t => if m = g ∧ digit a = true ∧ digit b = true ∧ digit c = true ∧ startsD t = false then greedy g f (d ++ [a, b, c]) t else (d, r)
    | _ => (d, r)
theorem drop_take_digits (l : List Nat) : startsD (l.drop (l.takeWhile digit).length) = false := by
  induction l with
  | nil => rfl
  | cons c l ih =>
    by_cases h : digit c = true
    · rw [List.takeWhile_cons_of_pos h, List.length_cons, List.drop_succ_cons]
      exact ih
    · rw [List.takeWhile_cons_of_neg h]
      simpa [startsD] using h
theorem longest_app {a : Cand} {l : List Cand} {y : Cand} (h : longest l = some y) (hl : y.2.2.length < a.2.2.length) : longest (a :: l) = some y := by
  rw [longest, h]
  exact if_pos hl
theorem cand_ok {mark : Option Nat} {x : List Nat × List Nat} (h : startsD x.2 = false) : longest ((candsOf mark x).filter okC) = some (fracOf mark x) := by
  obtain ⟨d, r⟩ := x
  have h1 : okC (d, [], r) = true := by rw [okC_eq]; simp only [h]; rfl
  unfold candsOf fracOf
  cases mark with
  | none =>
    rw [List.filter_cons_of_pos h1]
    rfl
  | some p =>
    cases r with
    | nil =>
      rw [List.filter_cons_of_pos h1]
      rfl
    | cons c r =>
      dsimp only
      rw [List.filter_cons_of_pos h1]
      by_cases hc : c = p ∧ r.takeWhile digit ≠ []
      · rw [if_pos hc, if_pos hc, List.filter_cons_of_pos (by rw [okC_eq]; simp only [drop_take_digits]; rfl)]
        refine longest_app rfl ?_
        dsimp only
        rw [List.length_drop, List.length_cons]
        omega
      · rw [if_neg hc, if_neg hc]
        rfl
theorem cand_bad {mark : Option Nat} {x : List Nat × List Nat} (h : startsD x.2 = true) (hm : ∀ p, mark = some p → digit p = false) : (candsOf mark x).filter okC = [] := by
  obtain ⟨d, r⟩ := x
  have h1 : ¬ okC (d, [], r) = true := by rw [okC_eq]; simp only [h]; decide
  unfold candsOf
  rw [List.filter_cons_of_neg h1]
  cases mark with
  | none => rfl
  | some p =>
    cases r with
    | nil => rfl
    | cons c r =>
      dsimp only
      rw [if_neg]
      · rfl
      · rintro ⟨rfl, _⟩
        rw [show startsD (c :: r) = digit c from rfl, hm c rfl] at h
        cases h
theorem fracOf_len (mark : Option Nat) (x : List Nat × List Nat) : (fracOf mark x).2.2.length ≤ x.2.length := by
  unfold fracOf
  split
  · rename_i h
    split
    · rw [h]
      dsimp only
      rw [List.length_drop, List.length_cons]
      omega
    · exact Nat.le_refl _
  · exact Nat.le_refl _
theorem greedy_len (g : Nat) : ∀ (f : Nat) (d r : List Nat), (greedy g f d r).2.length ≤ r.length
  | 0, d, r => Nat.le_refl _
  | f + 1, d, r => by
    unfold greedy
    split
    · split
      · refine Nat.le_trans (greedy_len g f _ _) ?_
        simp only [List.length_cons]
        omega
      · exact Nat.le_refl _
    · exact Nat.le_refl _
theorem groupsOn_cons (g f : Nat) (d : List Nat) (m a b c : Nat) (t : List Nat) : groupsOn g (f + 1) d (m :: a :: b :: c :: t) = if m = g ∧ digit a = true ∧ digit b = true ∧ digit c = true then (d ++ [a, b, c], t) :: groupsOn g f (d ++ [a, b, c]) t else [] := rfl
theorem groupsOn_short {g f : Nat} {d r : List Nat} (h : r.length < 4) : groupsOn g f d r = [] := by
  cases f with
  | zero => rfl
  | succ f =>
    match r, h with
    | [], _ => rfl
    | [_], _ => rfl
    | [_, _], _ => rfl
    | [_, _, _], _ => rfl
theorem greedy_short {g f : Nat} {d r : List Nat} (h : r.length < 4) : greedy g f d r = (d, r) := by
  cases f with
  | zero => rfl
  | succ f =>
    match r, h with
    | [], _ => rfl
    | [_], _ => rfl
    | [_, _], _ => rfl
    | [_, _, _], _ => rfl
theorem groupsOn_dig {g f : Nat} {d r : List Nat} (h : startsD r = true) (hg : digit g = false) : groupsOn g f d r = [] := by
  by_cases hl : r.length < 4
  · exact groupsOn_short hl
  · cases f with
    | zero => rfl
    | succ f =>
      match r, h, hl with
      | m :: a :: b :: c :: t, h, _ =>
        rw [groupsOn_cons, if_neg]
        rintro ⟨rfl, _⟩
        rw [show startsD (m :: a :: b :: c :: t) = digit m from rfl, hg] at h
        cases h
      | [], _, hl => exact absurd (by decide) hl
      | [_], _, hl => exact absurd (by simp) hl
      | [_, _], _, hl => exact absurd (by simp) hl
      | [_, _, _], _, hl => exact absurd (by simp) hl
theorem groups_longest {mark : Option Nat} {g : Nat} (hm : ∀ p, mark = some p → digit p = false ∧ p ≠ g) (hg : digit g = false) : ∀ {f : Nat} {d r : List Nat}, startsD r = false →
    longest ((((d, r) :: groupsOn g f d r).flatMap (candsOf mark)).filter okC) = some (fracOf mark (greedy g f d r))
  | 0, d, r, hr => by
    show longest (([(d, r)].flatMap (candsOf mark)).filter okC) = some (fracOf mark (d, r))
    rw [List.flatMap_cons, List.flatMap_nil, List.append_nil]
    exact cand_ok hr
  | f + 1, d, r, hr => by
    have alone : longest (([(d, r)].flatMap (candsOf mark)).filter okC) = some (fracOf mark (d, r)) := by
      rw [List.flatMap_cons, List.flatMap_nil, List.append_nil]
      exact cand_ok hr
    by_cases hl : r.length < 4
    · rw [groupsOn_short hl, greedy_short hl]
      exact alone
    · match r, hr, hl, alone with
      | m :: a :: b :: c :: t, hr, _, alone =>
        rw [groupsOn_cons]
        unfold greedy
        dsimp only
        by_cases h1 : m = g ∧ digit a = true ∧ digit b = true ∧ digit c = true
        · rw [if_pos h1]
          have e1 : candsOf mark (d, m :: a :: b :: c :: t) = [(d, [], m :: a :: b :: c :: t)] := by
            unfold candsOf
            cases mark with
            | none => rfl
            | some p =>
              dsimp only
              rw [if_neg]
              rintro ⟨rfl, _⟩
              exact (hm m rfl).2 h1.1
          by_cases h2 : startsD t = true
          · rw [if_neg (fun z => by rw [z.2.2.2.2] at h2; cases h2), groupsOn_dig h2 hg, List.flatMap_cons, List.filter_append, List.flatMap_cons, List.flatMap_nil, List.append_nil, cand_bad (x := (d ++ [a, b, c], t)) h2 (fun p hp => (hm p hp).1), List.append_nil]
            exact cand_ok hr
          · have h2 : startsD t = false := by simpa using h2
            rw [if_pos ⟨h1.1, h1.2.1, h1.2.2.1, h1.2.2.2, h2⟩, List.flatMap_cons, List.filter_append, e1, List.filter_cons_of_pos (by rw [okC_eq]; simp only [hr]; rfl)]
            refine longest_app (groups_longest hm hg h2) ?_
            refine Nat.lt_of_le_of_lt (Nat.le_trans (fracOf_len _ _) (greedy_len _ _ _ _)) ?_
            simp only [List.length_cons]
            omega
        · rw [if_neg h1, if_neg (fun z => h1 ⟨z.1, z.2.1, z.2.2.1, z.2.2.2.1⟩)]
          exact alone
      | [], _, hl, _ => exact absurd (by decide) hl
      | [_], _, hl, _ => exact absurd (by simp) hl
      | [_, _], _, hl, _ => exact absurd (by simp) hl
      | [_, _, _], _, hl, _ => exact absurd (by simp) hl
end Tc
namespace Tc
open Fh FhCheck
/-! ### plain: the program's number is the longest -/
theorem three {s : List Nat} : (s.takeWhile digit).length = 3 ↔ ∃ a b c t, s = a :: b :: c :: t ∧ digit a = true ∧ digit b = true ∧ digit c = true ∧ startsD t = false := by
  constructor
  · intro h
    match s, h with
    | a :: s, h =>
      by_cases ha : digit a = true
      · rw [List.takeWhile_cons_of_pos ha, List.length_cons] at h
        match s, h with
        | b :: s, h =>
          by_cases hb : digit b = true
          · rw [List.takeWhile_cons_of_pos hb, List.length_cons] at h
            match s, h with
            | c :: t, h =>
              by_cases hc : digit c = true
              · rw [List.takeWhile_cons_of_pos hc, List.length_cons] at h
                refine ⟨a, b, c, t, rfl, ha, hb, hc, ?_⟩
                match t, h with
                | [], _ => rfl
                | x :: t, h =>
                  by_cases hx : digit x = true
                  · rw [List.takeWhile_cons_of_pos hx, List.length_cons] at h
                    omega
                  · simpa [startsD] using hx
              · rw [List.takeWhile_cons_of_neg hc] at h
                simp at h
            | [], h => simp at h
          · rw [List.takeWhile_cons_of_neg hb] at h
            simp at h
        | [], h => simp at h
      · rw [List.takeWhile_cons_of_neg ha] at h
        simp at h
    | [], h => simp at h
  · rintro ⟨a, b, c, t, rfl, ha, hb, hc, ht⟩
    rw [List.takeWhile_cons_of_pos ha, List.takeWhile_cons_of_pos hb, List.takeWhile_cons_of_pos hc]
    cases t with
    | nil => rfl
    | cons x t =>
      rw [List.takeWhile_cons_of_neg (by rw [show digit x = false from ht]; exact Bool.false_ne_true)]
      rfl
theorem group_at {r : Row} {e g : Nat} : (markAt (r.map pcOf) e g = true ∧ digitsEnd (r.map pcOf) (e + 1) = e + 4) ↔ ∃ a b c t, on r e = g :: a :: b :: c :: t ∧ digit a = true ∧ digit b = true ∧ digit c = true ∧ startsD t = false := by
  rw [markAt_on, digitsEnd_on]
  rcases on_head r e with ⟨m, h, eo⟩ | ⟨eo, h⟩
  · rw [eo]
    dsimp only
    constructor
    · rintro ⟨h1, h2⟩
      obtain ⟨a, b, c, t, hs, q⟩ := three.mp (show ((on r (e + 1)).takeWhile digit).length = 3 by omega)
      exact ⟨a, b, c, t, by rw [hs, of_decide_eq_true h1], q⟩
    · rintro ⟨a, b, c, t, hs, q⟩
      injection hs with h1 h2
      have z := three.mpr ⟨a, b, c, t, h2, q⟩
      exact ⟨decide_eq_true h1, by omega⟩
  · rw [eo]
    constructor
    · rintro ⟨h1, _⟩
      cases h1
    · rintro ⟨a, b, c, t, hs, _⟩
      cases hs
theorem digs_on {r : Row} : ∀ {k p : Nat}, k ≤ (on r p).length → digsOf (((r.map pcOf).drop p).take k) = ((on r p).take k).filter digit
  | 0, p, _ => by simp [digsOf]
  | k + 1, p, h => by
    rcases on_head r p with ⟨c, h1, e⟩ | ⟨e, h1⟩
    · rw [e, List.length_cons] at h
      obtain ⟨hl, e1⟩ := List.getElem?_eq_some_iff.mp h1
      have e2 : (r.map pcOf).drop p = (0, c) :: (r.map pcOf).drop (p + 1) := by
        rw [List.drop_eq_getElem_cons (by rw [List.length_map]; exact hl), List.getElem_map, e1]
        rfl
      have ih := digs_on (r := r) (k := k) (p := p + 1) (by omega)
      rw [e, e2, List.take_succ_cons, List.take_succ_cons]
      unfold digsOf at ih ⊢
      by_cases hc : digit c = true
      · rw [List.filter_cons_of_pos (p := digit) hc, List.filter_cons_of_pos (p := fun x : Pc => digit x.2) (a := (0, c)) hc, List.map_cons, ih]
      · rw [List.filter_cons_of_neg (p := digit) hc, List.filter_cons_of_neg (p := fun x : Pc => digit x.2) (a := (0, c)) hc, ih]
    · rw [e] at h
      exact absurd h (by simp)
theorem greedy_stop {g f : Nat} {d s : List Nat} (h : ¬ ∃ a b c t, s = g :: a :: b :: c :: t ∧ digit a = true ∧ digit b = true ∧ digit c = true ∧ startsD t = false) : greedy g f d s = (d, s) := by
  by_cases hl : s.length < 4
  · exact greedy_short hl
  · cases f with
    | zero => rfl
    | succ f =>
      match s, h, hl with
      | m :: a :: b :: c :: t, h, _ =>
        unfold greedy
        dsimp only
        rw [if_neg]
        rintro ⟨rfl, q⟩
        exact h ⟨a, b, c, t, rfl, q⟩
      | [], _, hl => exact absurd (by decide) hl
      | [_], _, hl => exact absurd (by simp) hl
      | [_, _], _, hl => exact absurd (by simp) hl
      | [_, _, _], _, hl => exact absurd (by simp) hl
theorem grp_greedy {r : Row} {g : Nat} (hg : digit g = false) : ∀ {n f e : Nat} {d : List Nat}, r.length ≤ e + n → (on r e).length ≤ f →
    on r (grpEnd (r.map pcOf) g n e) = (greedy g f d (on r e)).2 ∧ e ≤ grpEnd (r.map pcOf) g n e ∧ grpEnd (r.map pcOf) g n e - e ≤ (on r e).length ∧ (greedy g f d (on r e)).1 = d ++ ((on r e).take (grpEnd (r.map pcOf) g n e - e)).filter digit := by
  intro n
  induction n with
  | zero =>
    intro f e d hn hf
    have z : on r e = [] := by
      unfold on
      rw [List.drop_eq_nil_of_le (by omega)]
      rfl
    rw [show grpEnd (r.map pcOf) g 0 e = e from rfl, z, greedy_short (by simp)]
    simp
  | succ n ih =>
    intro f e d hn hf
    by_cases hc : markAt (r.map pcOf) e g = true ∧ digitsEnd (r.map pcOf) (e + 1) = e + 4
    · obtain ⟨a, b, c, t, hs, ha, hb, hcc, ht⟩ := group_at.mp hc
      rw [hs] at hf
      simp only [List.length_cons] at hf
      obtain ⟨f, rfl⟩ : ∃ f', f = f' + 1 := ⟨f - 1, by omega⟩
      have e4 : on r (e + 4) = t := by
        rw [on_drop (by rw [hs]; simp), hs]
        rfl
      obtain ⟨i1, i2, i3, i4⟩ := ih (f := f) (e := e + 4) (d := d ++ [a, b, c]) (by omega) (by rw [e4]; omega)
      rw [e4] at i1 i3 i4
      rw [grpEnd, if_pos hc, hs]
      have e5 : greedy g (f + 1) d (g :: a :: b :: c :: t) = greedy g f (d ++ [a, b, c]) t := by
        rw [show greedy g (f + 1) d (g :: a :: b :: c :: t) = if g = g ∧ digit a = true ∧ digit b = true ∧ digit c = true ∧ startsD t = false then greedy g f (d ++ [a, b, c]) t else (d, g :: a :: b :: c :: t) from rfl, if_pos ⟨rfl, ha, hb, hcc, ht⟩]
      rw [e5]
      refine ⟨i1, by omega, by simp only [List.length_cons]; omega, ?_⟩
      rw [i4, show grpEnd (r.map pcOf) g n (e + 4) - e = (grpEnd (r.map pcOf) g n (e + 4) - (e + 4)) + 4 by omega]
      rw [List.take_succ_cons, List.take_succ_cons, List.take_succ_cons, List.take_succ_cons, List.filter_cons_of_neg (by rw [hg]; exact Bool.false_ne_true), List.filter_cons_of_pos ha, List.filter_cons_of_pos hb, List.filter_cons_of_pos hcc]
      simp
    · rw [grpEnd, if_neg hc, greedy_stop (fun z => hc (group_at.mpr z))]
      simp
end Tc
namespace Tc
open Fh FhCheck
/-! ### plain: reading one of several -/
theorem signs_lt : ∀ c ∈ signs, 33 ≤ c ∧ c ≤ 12351 ∧ (c < 128 ∨ 128 ≤ c) := by decide +kernel
theorem signs_mem : ∀ c ∈ signs, c ≤ 12351 ∧ 33 ≤ c ∧ c ≠ 110 ∧ c ≠ 32 ∧ c ≠ 10 ∧ c < 128 → c ≤ 126 := by decide +kernel
theorem foldl_max_le : ∀ {l : List Nat} {a m : Nat}, a ≤ m → (∀ x ∈ l, x ≤ m) → l.foldl max a ≤ m
  | [], a, m, h, _ => h
  | x :: l, a, m, h, hl => foldl_max_le (l := l) (a := max a x) (Nat.max_le.mpr ⟨h, hl x List.mem_cons_self⟩) fun y hy => hl y (List.mem_cons_of_mem _ hy)
theorem le_foldl_max : ∀ {l : List Nat} {a : Nat}, a ≤ l.foldl max a
  | [], a => Nat.le_refl _
  | x :: l, a => Nat.le_trans (Nat.le_max_left a x) (le_foldl_max (l := l))
theorem mem_foldl_max : ∀ {l : List Nat} {a x : Nat}, x ∈ l → x ≤ l.foldl max a
  | y :: l, a, x, h => by
    rcases (List.mem_cons).mp h with rfl | h
    · exact Nat.le_trans (Nat.le_max_right a x) (le_foldl_max (l := l))
    · exact mem_foldl_max (l := l) h
theorem pick_err {α : Type} {l : List (Bytes × α)} {b : Bytes} {m : Nat} (h : ∀ x ∈ l, x.1.isPrefixOf b = false ∧ common x.1 b ≤ m) (h2 : m = 0 ∨ ∃ x ∈ l, common x.1 b = m) : pick l b = .error m := by
  have hn : l.find? (fun x => x.1.isPrefixOf b) = none := List.find?_eq_none.mpr fun x hx => by simp [(h x hx).1]
  unfold pick
  rw [hn]
  have e : (l.map fun x => common x.1 b).foldl max 0 = m := by
    refine Nat.le_antisymm (foldl_max_le (Nat.zero_le _) fun y hy => ?_) ?_
    · obtain ⟨x, hx, rfl⟩ := List.mem_map.mp hy
      exact (h x hx).2
    · rcases h2 with rfl | ⟨x, hx, rfl⟩
      · exact Nat.zero_le _
      · exact mem_foldl_max (List.mem_map.mpr ⟨x, hx, rfl⟩)
  exact congrArg Except.error e
theorem pick_ok {α : Type} {l : List (Bytes × α)} {b : Bytes} {x : Bytes × α} (hx : x ∈ l) (hp : x.1.isPrefixOf b = true) (hu : ∀ y ∈ l, y.1.isPrefixOf b = true → y = x) : pick l b = .ok (x.2, x.1.length) := by
  unfold pick
  cases hf : l.find? (fun x => x.1.isPrefixOf b) with
  | none => exact absurd hp (by simpa using (List.find?_eq_none.mp hf) x hx)
  | some y =>
    have hy := hu y (List.mem_of_find?_eq_some hf) (by simpa using List.find?_some hf)
    subst hy
    rfl
/-! words and what they have in common -/
theorem common_cons {x y : UInt8} {w r : Bytes} : common (x :: w) (y :: r) = if x = y then common w r + 1 else 0 := rfl
theorem common_nil {w : Bytes} : common w [] = 0 := by cases w <;> rfl
theorem common_nl {r : Bytes} : common [] r = 0 := rfl
theorem pre_cons {x y : UInt8} {w r : Bytes} : (x :: w).isPrefixOf (y :: r) = (x == y && w.isPrefixOf r) := rfl
theorem pre_nil {x : UInt8} {w : Bytes} : (x :: w).isPrefixOf ([] : Bytes) = false := rfl
theorem ofNat_eq {n : Nat} {t : UInt8} (h : n < 256) : UInt8.ofNat n = t ↔ n = t.toNat := by
  constructor
  · rintro rfl
    simp [Nat.mod_eq_of_lt h]
  · rintro rfl
    simp
/-- the words of signs -/
theorem utf8_1 {c : Nat} (h : c < 128) : utf8 c = [UInt8.ofNat c] := if_pos h
theorem utf8_2 {c : Nat} (h1 : ¬ c < 128) (h2 : c < 2048) : utf8 c = [UInt8.ofNat (192 + c / 64), UInt8.ofNat (128 + c % 64)] := by
  unfold utf8
  rw [if_neg h1, if_pos h2]
theorem utf8_3 {c : Nat} (h2 : ¬ c < 2048) (h3 : c < 65536) : utf8 c = [UInt8.ofNat (224 + c / 4096), UInt8.ofNat (128 + c / 64 % 64), UInt8.ofNat (128 + c % 64)] := by
  unfold utf8
  rw [if_neg (by omega), if_neg h2, if_pos h3]
/-- pieces of r that a sign's word has in common with it -/
theorem sgn_common {c : Nat} (hc : c ≤ 12351) (e t0 : UInt8) (r : Bytes) : common (utf8 c ++ [e]) (t0 :: r) =
    if c < 128 then (if c = t0.toNat then common [e] r + 1 else 0)
    else if c < 2048 then (if 192 + c / 64 = t0.toNat then common [UInt8.ofNat (128 + c % 64), e] r + 1 else 0)
    else (if 224 + c / 4096 = t0.toNat then common [UInt8.ofNat (128 + c / 64 % 64), UInt8.ofNat (128 + c % 64), e] r + 1 else 0) := by
  by_cases h1 : c < 128
  · rw [if_pos h1, utf8_1 h1]
    show common (UInt8.ofNat c :: [e]) (t0 :: r) = _
    rw [common_cons]
    simp only [ofNat_eq (show c < 256 by omega)]
  rw [if_neg h1]
  by_cases h2 : c < 2048
  · rw [if_pos h2, utf8_2 h1 h2]
    show common (UInt8.ofNat (192 + c / 64) :: _) (t0 :: r) = _
    rw [common_cons]
    simp only [ofNat_eq (show 192 + c / 64 < 256 by omega)]
    rfl
  · rw [if_neg h2, utf8_3 h2 (by omega)]
    show common (UInt8.ofNat (224 + c / 4096) :: _) (t0 :: r) = _
    rw [common_cons]
    simp only [ofNat_eq (show 224 + c / 4096 < 256 by omega)]
    rfl
end Tc
namespace Tc
open Fh FhCheck
theorem common_le : ∀ (w r : Bytes), common w r ≤ w.length
  | [], _ => Nat.le_refl _
  | x :: w, [] => Nat.zero_le _
  | x :: w, y :: r => by
    rw [common_cons]
    split
    · exact Nat.succ_le_succ (common_le w r)
    · exact Nat.zero_le _
theorem pre_common : ∀ {w r : Bytes}, w.isPrefixOf r = true → common w r = w.length
  | [], _, _ => rfl
  | x :: w, [], h => by cases h
  | x :: w, y :: r, h => by
    rw [pre_cons, Bool.and_eq_true, beq_iff_eq] at h
    rw [common_cons, if_pos h.1, pre_common h.2]
    rfl
theorem pre_not {w r : Bytes} (h : common w r < w.length) : w.isPrefixOf r = false := by
  cases e : w.isPrefixOf r with
  | false => rfl
  | true => rw [pre_common e] at h; omega
theorem rWord_drop {b : Bytes} {q : Nat} {w r : Bytes} (h : b.drop q = r) : rWord b q w = if w.isPrefixOf r = true then .ok (q + w.length) else .error (q + common w r) := by
  unfold rWord
  rw [h]
/-- one byte read -/
theorem rByte_ok {b : Bytes} {q : Nat} {e : UInt8} {r : Bytes} (h : b.drop q = e :: r) : rWord b q [e] = .ok (q + 1) := by
  rw [rWord_drop h, if_pos (by simp [List.isPrefixOf])]
  rfl
theorem rByte_no {b : Bytes} {q : Nat} {e : UInt8} (h : common [e] (b.drop q) = 0) : rWord b q [e] = .error q := by
  have hn : [e].isPrefixOf (b.drop q) = false := pre_not (by rw [h]; show 0 < 1; decide)
  unfold rWord
  rw [hn, if_neg Bool.false_ne_true, h]
  rfl
theorem byte_cases (e : UInt8) (r : Bytes) : (∃ r', r = e :: r') ∨ common [e] r = 0 := by
  cases r with
  | nil => exact .inr rfl
  | cons t r =>
    by_cases h : e = t
    · subst h
      exact .inl ⟨r, rfl⟩
    · exact .inr (by rw [common_cons, if_neg h])
section
variable {b : Bytes} {q least : Nat} {ks : List Nat} {e : UInt8} {ok : Nat → Bool}
theorem w_iff (hok : ∀ c ∈ signs, ok c = (decide (least ≤ c) && !ks.contains c)) (lo hi : Nat) : someSign (max lo least) hi ks = true ↔ ∃ c ∈ signs, ok c = true ∧ lo ≤ c ∧ c ≤ hi := by
  unfold someSign goodSign
  rw [List.any_eq_true]
  constructor
  · rintro ⟨c, hc, h⟩
    simp only [Bool.and_eq_true, decide_eq_true_eq] at h; refine ⟨c, hc, ?_, by omega, h.2.1⟩
    rw [hok c hc, Bool.and_eq_true, decide_eq_true_eq]
    exact ⟨by omega, h.2.2⟩
  · rintro ⟨c, hc, h, h1, h2⟩
    rw [hok c hc, Bool.and_eq_true, decide_eq_true_eq] at h
    refine ⟨c, hc, ?_⟩
    simp only [Bool.and_eq_true, decide_eq_true_eq]; exact ⟨by omega, h2, h.2⟩
theorem mem_then {x : Bytes × Nat} : x ∈ signsThen e ok ↔ ∃ c ∈ signs, ok c = true ∧ x = (utf8 c ++ [e], c) := by
  unfold signsThen
  rw [List.mem_map]
  constructor
  · rintro ⟨c, hc, rfl⟩
    rw [List.mem_filter] at hc
    exact ⟨c, hc.1, hc.2, rfl⟩
  · rintro ⟨c, hc, h, rfl⟩
    exact ⟨c, List.mem_filter.mpr ⟨hc, h⟩, rfl⟩
/-- the sign's word at the bytes r: how much they have in common -/
abbrev cm (e : UInt8) (r : Bytes) (c : Nat) : Nat := common (utf8 c ++ [e]) r
theorem utf8_len {c : Nat} (hc : c ≤ 12351) : (utf8 c).length = if c < 128 then 1 else if c < 2048 then 2 else 3 := by
  by_cases h1 : c < 128
  · rw [utf8_1 h1, if_pos h1]
    rfl
  by_cases h2 : c < 2048
  · rw [utf8_2 h1 h2, if_neg h1, if_pos h2]
    rfl
  · rw [utf8_3 h2 (by omega), if_neg h1, if_neg h2]
    rfl
/-- none of the signs stands there: m bytes go on -/
theorem sp_err {r : Bytes} {m : Nat} (h : ∀ c ∈ signs, ok c = true → cm e r c ≤ m ∧ cm e r c < (utf8 c).length + 1) (h2 : m = 0 ∨ ∃ c ∈ signs, ok c = true ∧ cm e r c = m) : pick (signsThen e ok) r = .error m := by
  refine pick_err (fun x hx => ?_) ?_
  · obtain ⟨c, hc, ho, rfl⟩ := mem_then.mp hx
    have := h c hc ho
    exact ⟨pre_not (by rw [List.length_append]; exact this.2), this.1⟩
  · rcases h2 with h2 | ⟨c, hc, ho, h2⟩
    · exact .inl h2
    · exact .inr ⟨_, mem_then.mpr ⟨c, hc, ho, rfl⟩, h2⟩
theorem sp_ok {r : Bytes} {c : Nat} (hc : c ∈ signs) (ho : ok c = true) (hp : cm e r c = (utf8 c).length + 1) (hu : ∀ c' ∈ signs, ok c' = true → cm e r c' = (utf8 c').length + 1 → c' = c) : pick (signsThen e ok) r = .ok (c, (utf8 c).length + 1) := by
  have := pick_ok (l := signsThen e ok) (b := r) (x := (utf8 c ++ [e], c)) (mem_then.mpr ⟨c, hc, ho, rfl⟩) (pre_of (by rw [List.length_append]; exact Nat.le_of_eq hp.symm)) (fun y hy hp' => by
    obtain ⟨c', hc', ho', rfl⟩ := mem_then.mp hy
    have h1 := pre_common hp'
    rw [List.length_append] at h1
    rw [hu c' hc' ho' h1])
  rw [this, List.length_append]
  rfl
/-- **a sign, then a byte** -/
theorem sign_pick (hok : ∀ c ∈ signs, ok c = (decide (least ≤ c) && !ks.contains c)) : ((rSign b q least ks).bind fun x => (rWord b x.2 [e]).bind fun q' => .ok (x.1, q')) = offR q (pick (signsThen e ok) (b.drop q)) := by
  have hW := w_iff hok
  unfold rSign rChar
  cases hb : b.drop q with
  | nil =>
    have : pick (signsThen e ok) [] = .error 0 := sp_err (fun c _ _ => by rw [cm, common_nil]; exact ⟨Nat.le_refl _, by omega⟩) (.inl rfl)
    rw [this]
    rfl
  | cons t0 r =>
    have hb1 : b.drop (q + 1) = r := by
      have := congrArg (List.drop 1) hb
      rw [List.drop_drop] at this
      exact this
    have t0lt := u8_lt t0
    have scm : ∀ c ∈ signs, cm e (t0 :: r) c = _ := fun c hc => sgn_common (signs_lt c hc).2.1 e t0 r
    have slen : ∀ c ∈ signs, (utf8 c).length = _ := fun c hc => utf8_len (signs_lt c hc).2.1
    have len2 : ∀ c ∈ signs, 128 ≤ c → c < 2048 → (utf8 c).length = 2 := fun c hc g1 g2 => by rw [slen _ hc, if_neg (by omega), if_pos g2]
    have len3 : ∀ c ∈ signs, 2048 ≤ c → (utf8 c).length = 3 := fun c hc g1 => by rw [slen _ hc, if_neg (by omega), if_neg (by omega)]
    show ((rLead t0.toNat q).bind _ |>.bind _) = _
    unfold rLead leadShape
    by_cases h1 : t0.toNat < 128
    · -- one byte
      rw [if_pos h1]
      show ((offR q (rcGo _ 0 0 (t0.toNat * 64 ^ 0) 0 r)).bind _) = _
      rw [show t0.toNat * 64 ^ 0 = t0.toNat by omega]
      cases hw : someSign (max (max t0.toNat 0) least) (t0.toNat + (64 ^ 0 - 1)) ks with
      | true =>
        rw [rcGo_0 hw]
        obtain ⟨c, hc, ho, l1, l2⟩ := (hW _ _).mp hw
        have ec : c = t0.toNat := by omega
        subst ec
        show ((rWord b (q + (0 + 1)) [e]).bind _) = _
        rcases byte_cases e r with ⟨r', rfl⟩ | hr
        · rw [rByte_ok (show b.drop (q + (0 + 1)) = e :: r' from hb1)]
          rw [sp_ok hc ho (by rw [scm _ hc, slen _ hc, if_pos h1, if_pos h1, if_pos rfl, common_cons, if_pos rfl]; rfl) fun c' hc' ho' h' => ?_, slen _ hc, if_pos h1]
          · rfl
          · rw [scm _ hc', slen _ hc'] at h'
            by_cases g1 : c' < 128
            · rw [if_pos g1, if_pos g1] at h'
              split at h'
              · assumption
              · omega
            · rw [if_neg g1, if_neg g1] at h'
              by_cases g2 : c' < 2048
              · rw [if_pos g2, if_neg (by omega)] at h'
                omega
              · rw [if_neg g2, if_neg (by omega)] at h'
                omega
        · rw [rByte_no (by rw [show q + (0 + 1) = q + 1 from rfl, hb1]; exact hr)]
          rw [sp_err (m := 1) (fun c' hc' ho' => ?_) (.inr ⟨_, hc, ho, by rw [scm _ hc, if_pos h1, if_pos rfl, hr]⟩)]
          · rfl
          · rw [scm _ hc', slen _ hc']
            by_cases g1 : c' < 128
            · rw [if_pos g1, if_pos g1]
              split
              · rw [hr]
                omega
              · omega
            · rw [if_neg g1, if_neg g1]
              by_cases g2 : c' < 2048
              · rw [if_pos g2, if_neg (by omega)]
                omega
              · rw [if_neg g2, if_neg (by omega)]
                omega
      | false =>
        rw [rcGo_no hw]
        rw [sp_err (m := 0) (fun c' hc' ho' => ?_) (.inl rfl)]
        · rfl
        · have hne : ¬ c' = t0.toNat := fun z => by
            have := (hW _ _).mpr ⟨c', hc', ho', show max t0.toNat 0 ≤ c' by omega, show c' ≤ t0.toNat + (64 ^ 0 - 1) by omega⟩
            rw [hw] at this
            cases this
          rw [scm _ hc']
          by_cases g1 : c' < 128
          · rw [if_pos g1, if_neg hne]
            exact ⟨Nat.le_refl _, by omega⟩
          · rw [if_neg g1]
            by_cases g2 : c' < 2048
            · rw [if_pos g2, if_neg (by omega)]
              exact ⟨Nat.le_refl _, by omega⟩
            · rw [if_neg g2, if_neg (by omega)]
              exact ⟨Nat.le_refl _, by omega⟩
    rw [if_neg h1]
    by_cases h2 : t0.toNat < 192 ∨ 248 ≤ t0.toNat
    · rw [if_pos h2]
      rw [sp_err (m := 0) (fun c' hc' ho' => ?_) (.inl rfl)]
      · rfl
      · have := (signs_lt c' hc').2.1
        rw [scm _ hc']
        by_cases g1 : c' < 128
        · rw [if_pos g1, if_neg (by omega)]
          exact ⟨Nat.le_refl _, by omega⟩
        · rw [if_neg g1]
          by_cases g2 : c' < 2048
          · rw [if_pos g2, if_neg (by omega)]
            exact ⟨Nat.le_refl _, by omega⟩
          · rw [if_neg g2, if_neg (by omega)]
            exact ⟨Nat.le_refl _, by omega⟩
    rw [if_neg h2]
    by_cases h3 : t0.toNat < 224
    · -- two bytes
      rw [if_pos h3]
      show ((offR q (rcGo _ 128 1 (t0.toNat % 32 * 64 ^ 1) 0 r)).bind _) = _
      rw [show t0.toNat % 32 * 64 ^ 1 = (t0.toNat - 192) * 64 by omega]
      have c2 : ∀ c' ∈ signs, cm e (t0 :: r) c' = if 128 ≤ c' ∧ c' < 2048 ∧ 192 + c' / 64 = t0.toNat then common [UInt8.ofNat (128 + c' % 64), e] r + 1 else 0 := fun c' hc' => by
        rw [scm _ hc']
        by_cases g1 : c' < 128
        · rw [if_pos g1, if_neg (by omega), if_neg (by omega)]
        · rw [if_neg g1]
          by_cases g2 : c' < 2048
          · rw [if_pos g2]
            by_cases g3 : 192 + c' / 64 = t0.toNat
            · rw [if_pos g3, if_pos ⟨by omega, g2, g3⟩]
            · rw [if_neg g3, if_neg (by omega)]
          · rw [if_neg g2, if_neg (by omega), if_neg (by omega)]
      cases hw : someSign (max (max ((t0.toNat - 192) * 64) 128) least) ((t0.toNat - 192) * 64 + (64 ^ (0 + 1) - 1)) ks with
      | false =>
        rw [rcGo_no hw]
        rw [sp_err (m := 0) (fun c' hc' ho' => ?_) (.inl rfl)]
        · rfl
        · rw [c2 _ hc', if_neg fun z => ?_]
          · exact ⟨Nat.le_refl _, by omega⟩
          · have := (hW _ _).mpr ⟨c', hc', ho', show max ((t0.toNat - 192) * 64) 128 ≤ c' by omega, show c' ≤ (t0.toNat - 192) * 64 + (64 ^ (0 + 1) - 1) by omega⟩
            rw [hw] at this
            cases this
      | true =>
        obtain ⟨c1, hc1, ho1, l1, l2⟩ := (hW _ _).mp hw
        have d1 : 128 ≤ c1 ∧ c1 < 2048 ∧ 192 + c1 / 64 = t0.toNat := by omega
        cases r with
        | nil =>
          rw [rcGo_nil hw]
          rw [sp_err (m := 1) (fun c' hc' ho' => ?_) (.inr ⟨c1, hc1, ho1, by rw [c2 _ hc1, if_pos d1, common_nil]⟩)]
          · rfl
          · rw [c2 _ hc', common_nil]
            split
            · rename_i g
              rw [len2 _ hc' g.1 g.2.1]
              omega
            · omega
        | cons t1 r =>
          have t1lt := u8_lt t1
          have hb2 : b.drop (q + 2) = r := by
            have := congrArg (List.drop 1) hb1
            rw [List.drop_drop] at this
            exact this
          have s2 : ∀ c', (UInt8.ofNat (128 + c' % 64) = t1) ↔ 128 + c' % 64 = t1.toNat := fun c' => ofNat_eq (by omega)
          by_cases k1 : t1.toNat / 64 = 2
          · rw [rcGo_on hw k1]
            rw [show (t0.toNat - 192) * 64 + t1.toNat % 64 * 64 ^ 0 = (t0.toNat - 192) * 64 + t1.toNat % 64 by omega]
            cases hw2 : someSign (max (max ((t0.toNat - 192) * 64 + t1.toNat % 64) 128) least) ((t0.toNat - 192) * 64 + t1.toNat % 64 + (64 ^ 0 - 1)) ks with
            | true =>
              rw [rcGo_0 hw2]
              obtain ⟨c, hc, ho, l3, l4⟩ := (hW _ _).mp hw2
              have ec : c = (t0.toNat - 192) * 64 + t1.toNat % 64 := by omega
              rw [← ec]
              have dc : 128 ≤ c ∧ c < 2048 ∧ 192 + c / 64 = t0.toNat := by omega
              have dc2 : UInt8.ofNat (128 + c % 64) = t1 := (s2 c).mpr (by omega)
              have lc : (utf8 c).length = 2 := len2 _ hc dc.1 dc.2.1
              show ((rWord b (q + (0 + 1 + 1)) [e]).bind _) = _
              rcases byte_cases e r with ⟨r', rfl⟩ | hr
              · rw [rByte_ok (show b.drop (q + (0 + 1 + 1)) = e :: r' from hb2)]
                rw [sp_ok hc ho (by rw [c2 _ hc, if_pos dc, lc, common_cons, if_pos dc2, common_cons, if_pos rfl]; rfl) fun c' hc' ho' h' => ?_, lc]
                · rfl
                · rw [c2 _ hc'] at h'
                  split at h'
                  · rename_i g
                    rw [common_cons, len2 _ hc' g.1 g.2.1] at h'
                    split at h'
                    · rename_i g'
                      have := (s2 c').mp g'
                      omega
                    · omega
                  · omega
              · rw [rByte_no (by rw [show q + (0 + 1 + 1) = q + 2 from rfl, hb2]; exact hr)]
                rw [sp_err (m := 2) (fun c' hc' ho' => ?_) (.inr ⟨_, hc, ho, by rw [c2 _ hc, if_pos dc, common_cons, if_pos dc2, hr]⟩)]
                · rfl
                · rw [c2 _ hc']
                  split
                  · rename_i g
                    rw [common_cons, hr, len2 _ hc' g.1 g.2.1]
                    split <;> omega
                  · omega
            | false =>
              rw [rcGo_no hw2]
              have nz : ∀ c' ∈ signs, ok c' = true → 128 ≤ c' ∧ c' < 2048 ∧ 192 + c' / 64 = t0.toNat → ¬ UInt8.ofNat (128 + c' % 64) = t1 := fun c' hc' ho' g z => by
                have z := (s2 c').mp z
                have := (hW _ _).mpr ⟨c', hc', ho', show max ((t0.toNat - 192) * 64 + t1.toNat % 64) 128 ≤ c' by omega, show c' ≤ (t0.toNat - 192) * 64 + t1.toNat % 64 + (64 ^ 0 - 1) by omega⟩
                rw [hw2] at this
                cases this
              rw [sp_err (m := 1) (fun c' hc' ho' => ?_) (.inr ⟨c1, hc1, ho1, by rw [c2 _ hc1, if_pos d1, common_cons, if_neg (nz c1 hc1 ho1 d1)]⟩)]
              · rfl
              · rw [c2 _ hc']
                split
                · rename_i g
                  rw [common_cons, if_neg (nz c' hc' ho' g), len2 _ hc' g.1 g.2.1]
                  omega
                · omega
          · rw [rcGo_bad hw k1]
            have nz : ∀ c', ¬ UInt8.ofNat (128 + c' % 64) = t1 := fun c' z => by
              have := (s2 c').mp z
              omega
            rw [sp_err (m := 1) (fun c' hc' ho' => ?_) (.inr ⟨c1, hc1, ho1, by rw [c2 _ hc1, if_pos d1, common_cons, if_neg (nz c1)]⟩)]
            · rfl
            · rw [c2 _ hc']
              split
              · rename_i g
                rw [common_cons, if_neg (nz c'), len2 _ hc' g.1 g.2.1]
                omega
              · omega
    rw [if_neg h3]
    have c3 : ∀ c' ∈ signs, cm e (t0 :: r) c' = if 2048 ≤ c' ∧ 224 + c' / 4096 = t0.toNat then common [UInt8.ofNat (128 + c' / 64 % 64), UInt8.ofNat (128 + c' % 64), e] r + 1 else 0 := fun c' hc' => by
      rw [scm _ hc']
      by_cases g1 : c' < 128
      · rw [if_pos g1, if_neg (by omega), if_neg (by omega)]
      · rw [if_neg g1]
        by_cases g2 : c' < 2048
        · rw [if_pos g2, if_neg (by omega), if_neg (by omega)]
        · rw [if_neg g2]
          by_cases g3 : 224 + c' / 4096 = t0.toNat
          · rw [if_pos g3, if_pos ⟨by omega, g3⟩]
          · rw [if_neg g3, if_neg (by omega)]
    by_cases h4 : t0.toNat < 240
    · -- three bytes
      rw [if_pos h4]
      show ((offR q (rcGo _ 2048 2 (t0.toNat % 16 * 64 ^ 2) 0 r)).bind _) = _
      rw [show t0.toNat % 16 * 64 ^ 2 = (t0.toNat - 224) * 4096 by omega]
      cases hw : someSign (max (max ((t0.toNat - 224) * 4096) 2048) least) ((t0.toNat - 224) * 4096 + (64 ^ (1 + 1) - 1)) ks with
      | false =>
        rw [rcGo_no hw]
        rw [sp_err (m := 0) (fun c' hc' ho' => ?_) (.inl rfl)]
        · rfl
        · rw [c3 _ hc', if_neg fun z => ?_]
          · exact ⟨Nat.le_refl _, by omega⟩
          · have := (hW _ _).mpr ⟨c', hc', ho', show max ((t0.toNat - 224) * 4096) 2048 ≤ c' by omega, show c' ≤ (t0.toNat - 224) * 4096 + (64 ^ (1 + 1) - 1) by omega⟩
            rw [hw] at this
            cases this
      | true =>
        obtain ⟨c1, hc1, ho1, l1, l2⟩ := (hW _ _).mp hw
        have d1 : 2048 ≤ c1 ∧ 224 + c1 / 4096 = t0.toNat := by omega
        cases r with
        | nil =>
          rw [rcGo_nil hw]
          rw [sp_err (m := 1) (fun c' hc' ho' => ?_) (.inr ⟨c1, hc1, ho1, by rw [c3 _ hc1, if_pos d1, common_nil]⟩)]
          · rfl
          · rw [c3 _ hc', common_nil]
            split
            · rename_i g
              rw [len3 _ hc' g.1]
              omega
            · omega
        | cons t1 r =>
          have t1lt := u8_lt t1
          have hb2 : b.drop (q + 2) = r := by
            have := congrArg (List.drop 1) hb1
            rw [List.drop_drop] at this
            exact this
          have s2 : ∀ c', (UInt8.ofNat (128 + c' / 64 % 64) = t1) ↔ 128 + c' / 64 % 64 = t1.toNat := fun c' => ofNat_eq (by omega)
          by_cases k1 : t1.toNat / 64 = 2
          · rw [rcGo_on hw k1]
            rw [show (t0.toNat - 224) * 4096 + t1.toNat % 64 * 64 ^ 1 = (t0.toNat - 224) * 4096 + t1.toNat % 64 * 64 by omega]
            cases hw2 : someSign (max (max ((t0.toNat - 224) * 4096 + t1.toNat % 64 * 64) 2048) least) ((t0.toNat - 224) * 4096 + t1.toNat % 64 * 64 + (64 ^ (0 + 1) - 1)) ks with
            | false =>
              rw [rcGo_no hw2]
              have nz : ∀ c' ∈ signs, ok c' = true → 2048 ≤ c' ∧ 224 + c' / 4096 = t0.toNat → ¬ UInt8.ofNat (128 + c' / 64 % 64) = t1 := fun c' hc' ho' g z => by
                have z := (s2 c').mp z
                have := (hW _ _).mpr ⟨c', hc', ho', show max ((t0.toNat - 224) * 4096 + t1.toNat % 64 * 64) 2048 ≤ c' by omega, show c' ≤ (t0.toNat - 224) * 4096 + t1.toNat % 64 * 64 + (64 ^ (0 + 1) - 1) by omega⟩
                rw [hw2] at this
                cases this
              rw [sp_err (m := 1) (fun c' hc' ho' => ?_) (.inr ⟨c1, hc1, ho1, by rw [c3 _ hc1, if_pos d1, common_cons, if_neg (nz c1 hc1 ho1 d1)]⟩)]
              · rfl
              · rw [c3 _ hc']
                split
                · rename_i g
                  rw [common_cons, if_neg (nz c' hc' ho' g), len3 _ hc' g.1]
                  omega
                · omega
            | true =>
              obtain ⟨c2', hc2, ho2, l3, l4⟩ := (hW _ _).mp hw2
              have d2 : 2048 ≤ c2' ∧ 224 + c2' / 4096 = t0.toNat := by omega
              have d3 : UInt8.ofNat (128 + c2' / 64 % 64) = t1 := (s2 c2').mpr (by omega)
              cases r with
              | nil =>
                rw [rcGo_nil hw2]
                rw [sp_err (m := 2) (fun c' hc' ho' => ?_) (.inr ⟨c2', hc2, ho2, by rw [c3 _ hc2, if_pos d2, common_cons, if_pos d3, common_nil]⟩)]
                · rfl
                · rw [c3 _ hc']
                  split
                  · rename_i g
                    rw [common_cons, common_nil, len3 _ hc' g.1]
                    split <;> omega
                  · omega
              | cons t2 r =>
                have t2lt := u8_lt t2
                have hb3 : b.drop (q + 3) = r := by
                  have := congrArg (List.drop 1) hb2
                  rw [List.drop_drop] at this
                  exact this
                have s3 : ∀ c', (UInt8.ofNat (128 + c' % 64) = t2) ↔ 128 + c' % 64 = t2.toNat := fun c' => ofNat_eq (by omega)
                by_cases k2 : t2.toNat / 64 = 2
                · rw [rcGo_on hw2 k2]
                  rw [show (t0.toNat - 224) * 4096 + t1.toNat % 64 * 64 + t2.toNat % 64 * 64 ^ 0 = (t0.toNat - 224) * 4096 + t1.toNat % 64 * 64 + t2.toNat % 64 by omega]
                  cases hw3 : someSign (max (max ((t0.toNat - 224) * 4096 + t1.toNat % 64 * 64 + t2.toNat % 64) 2048) least) ((t0.toNat - 224) * 4096 + t1.toNat % 64 * 64 + t2.toNat % 64 + (64 ^ 0 - 1)) ks with
                  | false =>
                    rw [rcGo_no hw3]
                    have nz : ∀ c' ∈ signs, ok c' = true → 2048 ≤ c' ∧ 224 + c' / 4096 = t0.toNat → UInt8.ofNat (128 + c' / 64 % 64) = t1 → ¬ UInt8.ofNat (128 + c' % 64) = t2 := fun c' hc' ho' g z1 z => by
                      have z := (s3 c').mp z
                      have z1 := (s2 c').mp z1
                      have := (hW _ _).mpr ⟨c', hc', ho', show max ((t0.toNat - 224) * 4096 + t1.toNat % 64 * 64 + t2.toNat % 64) 2048 ≤ c' by omega, show c' ≤ (t0.toNat - 224) * 4096 + t1.toNat % 64 * 64 + t2.toNat % 64 + (64 ^ 0 - 1) by omega⟩
                      rw [hw3] at this
                      cases this
                    rw [sp_err (m := 2) (fun c' hc' ho' => ?_) (.inr ⟨c2', hc2, ho2, by rw [c3 _ hc2, if_pos d2, common_cons, if_pos d3, common_cons, if_neg (nz c2' hc2 ho2 d2 d3)]⟩)]
                    · rfl
                    · rw [c3 _ hc']
                      split
                      · rename_i g
                        rw [common_cons, len3 _ hc' g.1]
                        split
                        · rename_i g1
                          rw [common_cons, if_neg (nz c' hc' ho' g g1)]
                          omega
                        · omega
                      · omega
                  | true =>
                    rw [rcGo_0 hw3]
                    obtain ⟨c, hc, ho, l5, l6⟩ := (hW _ _).mp hw3
                    have ec : c = (t0.toNat - 224) * 4096 + t1.toNat % 64 * 64 + t2.toNat % 64 := by omega
                    rw [← ec]
                    have dc : 2048 ≤ c ∧ 224 + c / 4096 = t0.toNat := by omega
                    have dc1 : UInt8.ofNat (128 + c / 64 % 64) = t1 := (s2 c).mpr (by omega)
                    have dc2 : UInt8.ofNat (128 + c % 64) = t2 := (s3 c).mpr (by omega)
                    have lc := len3 _ hc dc.1
                    show ((rWord b (q + (0 + 1 + 1 + 1)) [e]).bind _) = _
                    rcases byte_cases e r with ⟨r', rfl⟩ | hr
                    · rw [rByte_ok (show b.drop (q + (0 + 1 + 1 + 1)) = e :: r' from hb3)]
                      rw [sp_ok hc ho (by rw [c3 _ hc, if_pos dc, lc, common_cons, if_pos dc1, common_cons, if_pos dc2, common_cons, if_pos rfl]; rfl) fun c' hc' ho' h' => ?_, lc]
                      · rfl
                      · rw [c3 _ hc'] at h'
                        split at h'
                        · rename_i g
                          rw [common_cons, len3 _ hc' g.1] at h'
                          split at h'
                          · rename_i g1
                            rw [common_cons] at h'
                            split at h'
                            · rename_i g2
                              have := (s2 c').mp g1
                              have := (s3 c').mp g2
                              omega
                            · omega
                          · omega
                        · omega
                    · rw [rByte_no (by rw [show q + (0 + 1 + 1 + 1) = q + 3 from rfl, hb3]; exact hr)]
                      rw [sp_err (m := 3) (fun c' hc' ho' => ?_) (.inr ⟨_, hc, ho, by rw [c3 _ hc, if_pos dc, common_cons, if_pos dc1, common_cons, if_pos dc2, hr]⟩)]
                      · rfl
                      · rw [c3 _ hc']
                        split
                        · rename_i g
                          rw [common_cons, common_cons, hr, len3 _ hc' g.1]
                          split
                          · split <;> omega
                          · omega
                        · omega
                · rw [rcGo_bad hw2 k2]
                  have nz : ∀ c', ¬ UInt8.ofNat (128 + c' % 64) = t2 := fun c' z => by
                    have := (s3 c').mp z
                    omega
                  rw [sp_err (m := 2) (fun c' hc' ho' => ?_) (.inr ⟨c2', hc2, ho2, by rw [c3 _ hc2, if_pos d2, common_cons, if_pos d3, common_cons, if_neg (nz c2')]⟩)]
                  · rfl
                  · rw [c3 _ hc']
                    split
                    · rename_i g
                      rw [common_cons, common_cons, if_neg (nz c'), len3 _ hc' g.1]
                      split <;> omega
                    · omega
          · rw [rcGo_bad hw k1]
            have nz : ∀ c', ¬ UInt8.ofNat (128 + c' / 64 % 64) = t1 := fun c' z => by
              have := (s2 c').mp z
              omega
            rw [sp_err (m := 1) (fun c' hc' ho' => ?_) (.inr ⟨c1, hc1, ho1, by rw [c3 _ hc1, if_pos d1, common_cons, if_neg (nz c1)]⟩)]
            · rfl
            · rw [c3 _ hc']
              split
              · rename_i g
                rw [common_cons, if_neg (nz c'), len3 _ hc' g.1]
                omega
              · omega
    · rw [if_neg h4]
      show ((offR q (rcGo _ 65536 3 (t0.toNat % 8 * 64 ^ 3) 0 r)).bind _) = _
      have hw : someSign (max (max (t0.toNat % 8 * 64 ^ 3) 65536) least) (t0.toNat % 8 * 64 ^ 3 + (64 ^ 3 - 1)) ks = false := by
        cases hw : someSign (max (max (t0.toNat % 8 * 64 ^ 3) 65536) least) (t0.toNat % 8 * 64 ^ 3 + (64 ^ 3 - 1)) ks with
        | false => rfl
        | true =>
          obtain ⟨c1, hc1, ho1, l1, l2⟩ := (hW _ _).mp hw
          have := (signs_lt c1 hc1).2.1
          omega
      rw [rcGo_no hw]
      rw [sp_err (m := 0) (fun c' hc' ho' => ?_) (.inl rfl)]
      · rfl
      · have := (signs_lt c' hc').2.1
        rw [c3 _ hc', if_neg (by omega)]
        exact ⟨Nat.le_refl _, by omega⟩
end
end Tc
namespace Tc
open Fh FhCheck
theorem common_app : ∀ {w v : Bytes} {r : Bytes}, w.isPrefixOf r = true → common (w ++ v) r = w.length + common v (r.drop w.length) ∧ (w ++ v).isPrefixOf r = v.isPrefixOf (r.drop w.length)
  | [], v, r, _ => by simp
  | x :: w, v, [], h => by cases h
  | x :: w, v, y :: r, h => by
    rw [pre_cons, Bool.and_eq_true, beq_iff_eq] at h
    obtain ⟨rfl, h⟩ := h
    obtain ⟨h1, h2⟩ := common_app (v := v) h
    show common (x :: (w ++ v)) (x :: r) = (w.length + 1) + common v (r.drop w.length) ∧ (x :: (w ++ v)).isPrefixOf (x :: r) = v.isPrefixOf (r.drop w.length)
    rw [common_cons, if_pos rfl, h1, pre_cons, h2]
    simp
    omega
theorem common_app_no : ∀ {w v : Bytes} {r : Bytes}, w.isPrefixOf r = false → common (w ++ v) r = common w r ∧ (w ++ v).isPrefixOf r = false
  | [], v, r, h => by simp [List.isPrefixOf] at h
  | x :: w, v, [], h => ⟨rfl, rfl⟩
  | x :: w, v, y :: r, h => by
    rw [pre_cons, Bool.and_eq_false_iff] at h
    show common (x :: (w ++ v)) (y :: r) = _ ∧ (x :: (w ++ v)).isPrefixOf (y :: r) = false
    rw [common_cons, common_cons, pre_cons]
    by_cases e : x = y
    · have h : w.isPrefixOf r = false := h.resolve_left (by simp [e])
      obtain ⟨h1, h2⟩ := common_app_no (v := v) h
      rw [if_pos e, if_pos e, h1, h2]
      simp
    · rw [if_neg e, if_neg e]
      simp [e]
/-- two words, one behind the other -/
theorem rWord_append {b w v : Bytes} {p : Nat} : ((rWord b p w).bind fun q => rWord b q v) = rWord b p (w ++ v) := by
  unfold rWord
  cases h : w.isPrefixOf (b.drop p) with
  | true =>
    rw [if_pos rfl]
    obtain ⟨h1, h2⟩ := common_app (v := v) h
    rw [List.drop_drop] at h1 h2
    show (if v.isPrefixOf (b.drop (p + w.length)) = true then (Except.ok (p + w.length + v.length) : R Nat) else .error (p + w.length + common v (b.drop (p + w.length)))) = _
    rw [h2, h1, List.length_append, Nat.add_assoc, Nat.add_assoc]
  | false =>
    obtain ⟨h1, h2⟩ := common_app_no (v := v) h
    rw [if_neg Bool.false_ne_true, h2, h1, if_neg Bool.false_ne_true]
    rfl
theorem rWord_append' {β : Type} {b w v : Bytes} {p : Nat} {g : Nat → R β} : ((rWord b p w).bind fun q => (rWord b q v).bind g) = (rWord b p (w ++ v)).bind g := by
  rw [← rWord_append, bind_assoc]
/-- what is read, then a byte -/
def seqE {α : Type} (b : Bytes) (e : UInt8) (x : R (α × Nat)) : R (α × Nat) := x.bind fun x => (rWord b x.2 [e]).bind fun q => .ok (x.1, q)
theorem seqE_bind {α β : Type} {b : Bytes} {e : UInt8} {x : R (α × Nat)} {g : α → Nat → R β} : (x.bind fun x => (rWord b x.2 [e]).bind fun q => g x.1 q) = (seqE b e x).bind fun x => g x.1 x.2 := by
  unfold seqE
  rw [bind_assoc]
  congr 1
  funext y
  rw [bind_assoc]
  rfl
theorem sign_pickE {b : Bytes} {q least : Nat} {ks : List Nat} {e : UInt8} {ok : Nat → Bool} (hok : ∀ c ∈ signs, ok c = (decide (least ≤ c) && !ks.contains c)) : seqE b e (rSign b q least ks) = offR q (pick (signsThen e ok) (b.drop q)) := sign_pick hok
/-! marks -/
theorem none_w : W "none" = none4 := by decide +kernel
def optV (o : Option Nat) : Nat := o.getD 0
def mapR {α β : Type} (f : α → β) : R (α × Nat) → R (β × Nat)
  | .ok x => .ok (f x.1, x.2)
  | .error k => .error k
theorem sgn_n {c : Nat} (hc : c ∈ signs) (e : UInt8) (r : Bytes) : cm e (110 :: r) c = 0 := by
  have h := signs_lt c hc
  have hn : c ≠ 110 := by
    have : ∀ c ∈ signs, c ≠ 110 := by decide +kernel
    exact this c hc
  rw [cm, sgn_common h.2.1]
  have e110 : (110 : UInt8).toNat = 110 := rfl
  rw [e110]
  by_cases g1 : c < 128
  · rw [if_pos g1, if_neg hn]
  · rw [if_neg g1]
    by_cases g2 : c < 2048
    · rw [if_pos g2, if_neg (by omega)]
    · rw [if_neg g2, if_neg (by omega)]
theorem find_map {α β : Type} (f : α → β) (l : List (Bytes × α)) (b : Bytes) : (l.map fun x => (x.1, f x.2)).find? (fun x => x.1.isPrefixOf b) = (l.find? fun x => x.1.isPrefixOf b).map fun x => (x.1, f x.2) := by
  induction l with
  | nil => rfl
  | cons x l ih =>
    rw [List.map_cons, List.find?_cons, List.find?_cons]
    cases h : x.1.isPrefixOf b with
    | true => rfl
    | false => exact ih
theorem pick_map {α β : Type} (f : α → β) (l : List (Bytes × α)) (b : Bytes) : pick (l.map fun x => (x.1, f x.2)) b = mapR f (pick l b) := by
  unfold pick
  rw [find_map]
  cases h : l.find? (fun x => x.1.isPrefixOf b) with
  | none =>
    show Except.error _ = Except.error _
    rw [List.map_map]
    rfl
  | some x => rfl
theorem pick_skip {α : Type} {x : Bytes × α} {l : List (Bytes × α)} {b : Bytes} (h1 : x.1.isPrefixOf b = false) (h2 : common x.1 b = 0) : pick (x :: l) b = pick l b := by
  unfold pick
  rw [List.find?_cons, h1, List.map_cons, List.foldl_cons, h2]
  rfl
theorem mark_pickE {b : Bytes} {q : Nat} {ks : List Nat} {e : UInt8} {ok : Nat → Bool} (hok : ∀ c ∈ signs, ok c = !ks.contains c) : seqE b e (rMark b q ks) = mapR optV (offR q (pick (markThen e ok) (b.drop q))) := by
  unfold markThen
  rw [none_w]
  by_cases hn : b[q]? = some 110
  · have hd := drop_at hn
    unfold rMark
    rw [if_pos hn]
    unfold seqE
    rw [bind_assoc]
    show ((rWord b q none4).bind fun y => (rWord b y [e]).bind fun q => .ok (0, q)) = _
    rw [rWord_append']
    have sg : ∀ y ∈ (signsThen e ok).map (fun x => (x.1, some x.2)), y.1.isPrefixOf (b.drop q) = false ∧ common y.1 (b.drop q) = 0 := fun y hy => by
      obtain ⟨x, hx, rfl⟩ := List.mem_map.mp hy
      obtain ⟨c, hc, ho, rfl⟩ := mem_then.mp hx
      have := sgn_n hc e (b.drop (q + 1))
      rw [hd]
      refine ⟨pre_not ?_, this⟩
      show cm e (110 :: b.drop (q + 1)) c < _
      rw [this, List.length_append]
      show 0 < (utf8 c).length + 1
      omega
    cases hp : (none4 ++ [e]).isPrefixOf (b.drop q) with
    | true =>
      rw [pick_ok (x := (none4 ++ [e], none)) List.mem_cons_self hp fun y hy hp' => ?_]
      · unfold rWord
        rw [hp, if_pos rfl]
        rfl
      · rcases List.mem_cons.mp hy with hy | hy
        · exact hy
        · rw [(sg y hy).1] at hp'
          cases hp'
    | false =>
      rw [pick_err (m := common (none4 ++ [e]) (b.drop q)) (fun y hy => ?_) (.inr ⟨_, List.mem_cons_self, rfl⟩)]
      · unfold rWord
        rw [hp, if_neg Bool.false_ne_true]
        rfl
      · rcases (List.mem_cons).mp hy with rfl | hy
        · exact ⟨hp, Nat.le_refl _⟩
        · exact ⟨(sg y hy).1, by rw [(sg y hy).2]; exact Nat.zero_le _⟩
  · have c0 : common (none4 ++ [e]) (b.drop q) = 0 := by
      cases hb : b.drop q with
      | nil => rfl
      | cons t r =>
        show common (110 :: ([111, 110, 101] ++ [e])) (t :: r) = 0
        rw [common_cons, if_neg fun z => ?_]
        refine hn ?_
        have h0 : (b.drop q)[0]? = some t := by rw [hb]; rfl
        rw [List.getElem?_drop] at h0
        rw [z]
        exact h0
    unfold rMark
    rw [if_neg hn, sign_pickE (ok := ok) (fun c hc => by rw [hok c hc]; simp), pick_skip (pre_not (by rw [c0]; simp)) c0, pick_map]
    cases pick (signsThen e ok) (b.drop q) with
    | ok x => rfl
    | error m => rfl
/-! numbers -/
theorem num_go {lo hi : Nat} {e : UInt8} (he : isDigit e = false) {b : Bytes} {q : Nat} : ∀ {r : Bytes} {k v : Nat}, b.drop (q + k) = r → k ≠ 0 → v ≤ hi → seqE b e (offR q (rnGo lo hi r k v)) = offR q (moreDigits lo hi e k v r)
  | [], k, v, hb, hk, hv => by
    unfold rnGo moreDigits
    split
    · rfl
    · show ((rWord b (q + k) [e]).bind _) = _
      rw [rByte_no (by rw [hb]; rfl)]
      rfl
  | c :: r, k, v, hb, hk, hv => by
    have hb1 : b.drop (q + (k + 1)) = r := by
      have := congrArg (List.drop 1) hb
      rw [List.drop_drop] at this
      exact this
    have e1 : rnGo lo hi (c :: r) k v = if isDigit c = true then (if (k ≠ 0 ∧ v = 0) ∨ begins lo hi (10 * v + (c.toNat - 48)) = false then .error k else rnGo lo hi r (k + 1) (10 * v + (c.toNat - 48))) else if k = 0 ∨ v < lo then .error k else .ok (v, k) := rfl
    have e2 : moreDigits lo hi e k v (c :: r) = if isDigit c = true ∧ v ≠ 0 ∧ begins lo hi (10 * v + (c.toNat - 48)) = true then moreDigits lo hi e (k + 1) (10 * v + (c.toNat - 48)) r else if c = e ∧ within lo hi v = true then .ok (v, k + 1) else .error k := rfl
    rw [e1, e2]
    by_cases hd : isDigit c = true
    · have hce : ¬ c = e := fun z => by
        rw [z, he] at hd
        cases hd
      have n2 : ¬ (c = e ∧ within lo hi v = true) := fun z => hce z.1
      rw [if_pos hd]
      by_cases hv0 : v = 0
      · have n1 : ¬ (isDigit c = true ∧ v ≠ 0 ∧ begins lo hi (10 * v + (c.toNat - 48)) = true) := fun z => z.2.1 hv0
        rw [if_pos (.inl ⟨hk, hv0⟩), if_neg n1, if_neg n2]
        rfl
      · by_cases hg : begins lo hi (10 * v + (c.toNat - 48)) = true
        · have n1 : ¬ ((k ≠ 0 ∧ v = 0) ∨ begins lo hi (10 * v + (c.toNat - 48)) = false) := by
            rintro (z | z)
            · exact hv0 z.2
            · rw [hg] at z
              cases z
          rw [if_neg n1, if_pos ⟨hd, hv0, hg⟩]
          exact num_go he hb1 (by omega) (begins_le hg)
        · have n1 : ¬ (isDigit c = true ∧ v ≠ 0 ∧ begins lo hi (10 * v + (c.toNat - 48)) = true) := fun z => hg z.2.2
          rw [if_pos (.inr (by simpa using hg)), if_neg n1, if_neg n2]
          rfl
    · have n1 : ¬ (isDigit c = true ∧ v ≠ 0 ∧ begins lo hi (10 * v + (c.toNat - 48)) = true) := fun z => hd z.1
      rw [if_neg hd, if_neg n1]
      by_cases hw : v < lo
      · have n2 : ¬ (c = e ∧ within lo hi v = true) := fun z => by
          have := z.2
          unfold within at this
          simp only [Bool.and_eq_true, decide_eq_true_eq] at this
          omega
        rw [if_pos (.inr hw), if_neg n2]
        rfl
      · have n3 : ¬ (k = 0 ∨ v < lo) := by omega
        have hwi : within lo hi v = true := by
          unfold within
          simp only [Bool.and_eq_true, decide_eq_true_eq]; omega
        rw [if_neg n3]
        show ((rWord b (q + k) [e]).bind _) = _
        by_cases hce : c = e
        · subst hce
          rw [rByte_ok hb, if_pos ⟨rfl, hwi⟩]
          rfl
        · have n2 : ¬ (c = e ∧ within lo hi v = true) := fun z => hce z.1
          rw [rByte_no (by rw [hb, common_cons, if_neg fun z => hce z.symm]), if_neg n2]
          rfl
theorem num_pickE {lo hi : Nat} {e : UInt8} (he : isDigit e = false) {b : Bytes} {q : Nat} : seqE b e (rNum b q lo hi) = offR q (numberThen lo hi e (b.drop q)) := by
  unfold rNum
  cases hb : b.drop q with
  | nil => rfl
  | cons c r =>
    have hb1 : b.drop (q + 1) = r := by
      have := congrArg (List.drop 1) hb
      rw [List.drop_drop] at this
      exact this
    have e1 : rnGo lo hi (c :: r) 0 0 = if isDigit c = true then (if ((0 : Nat) ≠ 0 ∧ (0 : Nat) = 0) ∨ begins lo hi (10 * 0 + (c.toNat - 48)) = false then .error 0 else rnGo lo hi r (0 + 1) (10 * 0 + (c.toNat - 48))) else if (0 : Nat) = 0 ∨ 0 < lo then .error 0 else .ok (0, 0) := rfl
    have e2 : numberThen lo hi e (c :: r) = if isDigit c = true ∧ begins lo hi (c.toNat - 48) = true then moreDigits lo hi e 1 (c.toNat - 48) r else .error 0 := rfl
    rw [e1, e2, show 10 * 0 + (c.toNat - 48) = c.toNat - 48 by omega]
    by_cases hd : isDigit c = true
    · rw [if_pos hd]
      by_cases hg : begins lo hi (c.toNat - 48) = true
      · have n1 : ¬ (((0 : Nat) ≠ 0 ∧ (0 : Nat) = 0) ∨ begins lo hi (c.toNat - 48) = false) := by
          rintro (z | z)
          · exact z.1 rfl
          · rw [hg] at z
            cases z
        rw [if_neg n1, if_pos ⟨hd, hg⟩]
        exact num_go he hb1 (by omega) (begins_le hg)
      · have n1 : ¬ (isDigit c = true ∧ begins lo hi (c.toNat - 48) = true) := fun z => hg z.2
        rw [if_pos (.inr (by simpa using hg)), if_neg n1]
        rfl
    · have n1 : ¬ (isDigit c = true ∧ begins lo hi (c.toNat - 48) = true) := fun z => hd z.1
      rw [if_neg hd, if_pos (.inl rfl), if_neg n1]
      rfl
end Tc
namespace Tc
open Fh FhCheck
/-! ### plain: a line behind its word -/
def tmB (i : Nat) : UInt8 := if i = 0 ∨ i = 1 ∨ i = 2 ∨ i = 4 ∨ i = 9 then 10 else 32
def fw (i : Nat) : Bytes := wd i ++ [tmB i]
def rTail (c : CL) (i : Nat) (b : Bytes) (q : Nat) : R (CL × Nat) :=
  if i = 3 then (seqE b 32 (rMark b q [])).bind fun x0 => (seqE b 32 (rMark b x0.2 [x0.1])).bind fun x1 => (seqE b 32 (rMark b x1.2 [])).bind fun x2 => (seqE b 10 (rMark b x2.2 [x2.1])).bind fun x3 => .ok ({ c with marks := some ((x0.1, x1.1), (x2.1, x3.1)) }, x3.2)
  else if i = 5 then (seqE b 10 (rSign b q (afterAll c.nob) [])).bind fun x => .ok ({ c with nob := addN c.nob x.1 }, x.2)
  else if i = 6 then (seqE b 10 (rSign b q (afterAll c.aft) c.nob)).bind fun x => .ok ({ c with aft := addN c.aft x.1 }, x.2)
  else if i = 7 then (seqE b 32 (rSign b q (leastE c) [])).bind fun x => (seqE b 10 (rSign b x.2 (if x.1 = (lastE c).1 then (lastE c).2 + 1 else 0) [])).bind fun y => .ok ({ c with ends := c.ends ++ [(x.1, y.1)] }, y.2)
  else if i = 8 then (seqE b 32 (rSign b q (afterAll (c.pairs.map Prod.fst)) c.bra)).bind fun x => (seqE b 10 (rSign b x.2 0 (addN c.bra x.1))).bind fun y => .ok ({ c with pairs := putP c.pairs x.1 y.1, bra := addN (addN c.bra x.1) y.1 }, y.2)
  else if i = 10 then (seqE b 10 (rNum b q 1 4096)).bind fun x => .ok ({ c with most := x.1 }, x.2)
  else if i = 11 then (seqE b 10 (rNum b q 1 100000)).bind fun x => .ok ({ c with longer := x.1 }, x.2)
  else if i = 12 then (seqE b 45 (rNum b q (leastR c) 1114111)).bind fun x => (seqE b 10 (rNum b x.2 x.1 1114111)).bind fun y => .ok ({ c with ranges := c.ranges ++ [(x.1, y.1)] }, y.2)
  else .ok ({ c with asked := addN c.asked i }, q)
theorem rMarks_eq (c : CL) (b : Bytes) (q : Nat) : rMarks c b q = (rWord b q [32]).bind (rTail c 3 b) := by
  show ((rmGo b 4 [] q).bind (fMarks c b)) = _
  simp only [rmGo, bind_assoc]
  congr 1
  funext q1
  show _ = (seqE b 32 (rMark b q1 [])).bind _
  unfold seqE
  simp only [bind_assoc]
  rfl
theorem rRest_eq {c : CL} {i : Nat} {b : Bytes} {q : Nat} (hi : i < 13) : rRest c i b q = (rWord b q [tmB i]).bind (rTail c i b) := by
  have h : i = 0 ∨ i = 1 ∨ i = 2 ∨ i = 3 ∨ i = 4 ∨ i = 5 ∨ i = 6 ∨ i = 7 ∨ i = 8 ∨ i = 9 ∨ i = 10 ∨ i = 11 ∨ i = 12 := by omega
  rcases h with rfl | rfl | rfl | rfl | rfl | rfl | rfl | rfl | rfl | rfl | rfl | rfl | rfl
  · rfl
  · rfl
  · rfl
  · exact rMarks_eq c b q
  · rfl
  · show ((rSpacing b q c.nob []).bind _) = _
    unfold rSpacing
    rw [bind_assoc]
    rfl
  · show ((rSpacing b q c.aft c.nob).bind _) = _
    unfold rSpacing
    rw [bind_assoc]
    rfl
  · show rEnding c b q = _
    unfold rEnding
    congr 1
    funext q1
    show _ = (seqE b 32 (rSign b q1 (leastE c) [])).bind _
    unfold seqE
    simp only [bind_assoc]
    rfl
  · show rPair c b q = _
    unfold rPair
    congr 1
    funext q1
    show _ = (seqE b 32 (rSign b q1 (afterAll (c.pairs.map Prod.fst)) c.bra)).bind _
    unfold seqE
    simp only [bind_assoc]
    rfl
  · rfl
  · show ((rLimit b q 4096).bind _) = _
    unfold rLimit
    rw [bind_assoc]
    rfl
  · show ((rLimit b q 100000).bind _) = _
    unfold rLimit
    rw [bind_assoc]
    rfl
  · show rRange c b q = _
    unfold rRange
    congr 1
    funext q1
    show _ = (seqE b 45 (rNum b q1 (leastR c) 1114111)).bind _
    unfold seqE
    simp only [bind_assoc]
    rfl
theorem rSort_eq {c : CL} {i : Nat} {b : Bytes} {p : Nat} (hi : i < 13) : rSort c i b p = (rWord b p (fw i)).bind (rTail c i b) := by
  unfold rSort fw
  rw [← rWord_append']
  congr 1
  funext q
  exact rRest_eq hi
/-! ### the program's list and the specification's -/
def optN (n : Nat) : Option Nat := if n = 0 then none else some n
def MkRel : Option ((Nat × Nat) × (Nat × Nat)) → Option Marks → Prop
  | none, none => True
  | some ((a, b), (c, d)), some m => m = ⟨optN a, optN b, optN c, optN d⟩
  | _, _ => False
def Fresh (c : CL) (i : Nat) : Prop := c.asked.contains i = false ∧ (i = 3 → c.marks = none) ∧ (i = 5 → c.nob = []) ∧ (i = 6 → c.aft = []) ∧ (i = 7 → c.ends = []) ∧ (i = 8 → c.pairs = [] ∧ c.bra = []) ∧ (i = 10 → c.most = 0) ∧ (i = 11 → c.longer = 0) ∧ (i = 12 → c.ranges = [])
structure Sim (o : Nat) (c : CL) (k : Checks) : Prop where
  f0 : k.empty_ = c.asked.contains 0
  f1 : k.same = c.asked.contains 1
  f2 : k.tags = c.asked.contains 2
  f4 : k.blanks = c.asked.contains 4
  f9 : k.twice = c.asked.contains 9
  mks : MkRel c.marks k.numbers
  nob : k.nobefore = c.nob
  aft : k.before = c.aft
  ends : k.ends = c.ends
  prs : k.pairs = c.pairs
  most : k.most = optN c.most
  longer : k.longer = optN c.longer
  rng : k.ranges = c.ranges
  used : ∀ x, c.bra.contains x = used k x
  lines : c.lines = k.lines
  anob : afterAll c.nob = ended c.nob
  aaft : afterAll c.aft = ended c.aft
  apar : afterAll (c.pairs.map Prod.fst) = ended (c.pairs.map Prod.fst)
  sgn : ∀ x ∈ c.ends, x.1 ∈ signs ∧ x.2 ∈ signs
  sgp : ∀ x ∈ c.pairs, x.1 ∈ signs ∧ x.2 ∈ signs
  sgn1 : ∀ x ∈ c.nob, x ∈ signs
  sgn2 : ∀ x ∈ c.aft, x ∈ signs
  lnob : c.nob.length ≤ 64
  lpar : c.pairs.length ≤ 64
  lbra : c.bra.length ≤ 2 * c.pairs.length
  new : ∀ i, o ≤ i → Fresh c i
def RelR {α β : Type} (S : α → β → Prop) : R (α × Nat) → R (β × Nat) → Prop
  | .ok x, .ok y => S x.1 y.1 ∧ x.2 = y.2
  | .error a, .error b => a = b
  | _, _ => False
theorem RelR.bind {α β γ : Type} {S : α → β → Prop} {x : R γ} {f : γ → R (α × Nat)} {g : γ → R (β × Nat)} (h : ∀ y, x = .ok y → RelR S (f y) (g y)) : RelR S (x.bind f) (x.bind g) := by
  cases x with
  | ok y => exact h y rfl
  | error e => exact (rfl : e = e)
theorem off_after {α β : Type} {q : Nat} {b : Bytes} {x : R (α × Nat)} {f : α → Bytes → R (β × Nat)} : offR q (after x (b.drop q) f) = (offR q x).bind fun y => offR y.2 (f y.1 (b.drop y.2)) := by
  cases x with
  | error e => rfl
  | ok y =>
    show offR q (match f y.1 ((b.drop q).drop y.2) with
      | .error k => .error (y.2 + k)
      | .ok z => .ok (z.1, y.2 + z.2)) = offR (q + y.2) (f y.1 (b.drop (q + y.2)))
    rw [List.drop_drop]
    cases f y.1 (b.drop (q + y.2)) with
    | error e => exact congrArg Except.error (by omega)
    | ok z => exact congrArg Except.ok (Prod.ext rfl (by show q + (y.2 + z.2) = q + y.2 + z.2; omega))
theorem pick_sign_mem {e : UInt8} {ok : Nat → Bool} {q : Nat} {r : Bytes} {y : Nat × Nat} (h : offR q (pick (signsThen e ok) r) = .ok y) : y.1 ∈ signs ∧ ok y.1 = true := by
  obtain ⟨z, hz, rfl⟩ := offR_ok h
  unfold pick at hz
  split at hz
  · rename_i x hx
    cases hz
    obtain ⟨c, hc, ho, rfl⟩ := mem_then.mp (List.mem_of_find?_eq_some hx)
    exact ⟨hc, ho⟩
  · cases hz
theorem addN_new {l : List Nat} {c : Nat} (h : l.contains c = false) : addN l c = l ++ [c] := by
  unfold addN
  rw [h, if_neg Bool.false_ne_true]
theorem after_not {l : List Nat} {c : Nat} (h : afterAll l ≤ c) : l.contains c = false := by
  induction l with
  | nil => rfl
  | cons d l ih =>
    have h' : max (d + 1) (afterAll l) ≤ c := h
    have i1 := ih (by omega)
    have : ¬ c = d := by omega
    simp only [List.contains_cons, i1, Bool.or_false]
    simpa using this
theorem after_snoc {l : List Nat} {c : Nat} (h : afterAll l ≤ c) : afterAll (l ++ [c]) = c + 1 := by
  induction l with
  | nil => simp [afterAll]
  | cons d l ih =>
    have h' : max (d + 1) (afterAll l) ≤ c := h
    have i1 := ih (by omega)
    show max (d + 1) (afterAll (l ++ [c])) = c + 1
    omega
theorem ended_snoc (l : List Nat) (c : Nat) : ended (l ++ [c]) = c + 1 := by
  unfold ended
  rw [List.getLast?_concat]
  rfl
theorem contains_addN {l : List Nat} {c x : Nat} : (addN l c).contains x = (l.contains x || x == c) := by
  unfold addN
  by_cases h : l.contains c = true
  · rw [if_pos h]
    by_cases e : x = c
    · subst e
      rw [h]
      rfl
    · have : (x == c) = false := by simpa using e
      rw [this, Bool.or_false]
  · rw [if_neg h]
    rw [Bool.eq_iff_iff]
    simp
end Tc
namespace Tc
open Fh FhCheck
/-- the program's list once the line is counted -/
abbrev up1 (c : CL) : CL := { c with lines := c.lines + 1 }
abbrev SimN (i : Nat) : CL → Checks → Prop := fun c k => Sim (i + 1) (up1 c) k
theorem lines_eq (k : Checks) : k.lines = k.empty_.toNat + (k.same.toNat + (k.tags.toNat + (k.numbers.toList.length + (k.blanks.toNat + (k.nobefore.length + (k.before.length + (k.ends.length + (k.pairs.length + (k.twice.toNat + (k.most.toList.length + (k.longer.toList.length + k.ranges.length))))))))))) := rfl
/-- what stays fresh behind sort i -/
theorem Fresh.asked {c : CL} {i j : Nat} (h : Fresh c j) (hij : j ≠ i) : Fresh { c with asked := addN c.asked i } j := by
  refine ⟨?_, h.2⟩
  have e : (j == i) = false := by simpa using hij
  show (addN c.asked i).contains j = false
  rw [contains_addN, h.1, e]
  rfl
section
variable {o : Nat} {c : CL} {k : Checks} {b : Bytes} {q : Nat}
/-- a word alone -/
theorem tail_flag {i : Nat} (hs : Sim o c k) (hoi : o ≤ i) (hi : i = 0 ∨ i = 1 ∨ i = 2 ∨ i = 4 ∨ i = 9) : RelR (SimN i) (rTail c i b q) (offR q (restOf k i (b.drop q))) := by
  have hf := (hs.new i hoi).1
  have ca : ∀ j, (addN c.asked i).contains j = (c.asked.contains j || j == i) := fun j => contains_addN
  have hn : ∀ j, i + 1 ≤ j → Fresh (up1 { c with asked := addN c.asked i }) j := fun j hj => (hs.new j (by omega)).asked (by omega)
  have hl := hs.lines
  rw [lines_eq] at hl
  have f0 := hs.f0
  have f1 := hs.f1
  have f2 := hs.f2
  have f4 := hs.f4
  have f9 := hs.f9
  rcases hi with rfl | rfl | rfl | rfl | rfl
  · rw [hf] at f0
    refine ⟨⟨by rw [ca]; simp, by rw [ca]; simp [f1], by rw [ca]; simp [f2], by rw [ca]; simp [f4], by rw [ca]; simp [f9], hs.mks, hs.nob, hs.aft, hs.ends, hs.prs, hs.most, hs.longer, hs.rng, hs.used, ?_, hs.anob, hs.aaft, hs.apar, hs.sgn, hs.sgp, hs.sgn1, hs.sgn2, hs.lnob, hs.lpar, hs.lbra, hn⟩, rfl⟩
    show c.lines + 1 = _
    rw [lines_eq, hl, f0]
    simp only [Bool.toNat_true, Bool.toNat_false]
    omega
  · rw [hf] at f1
    refine ⟨⟨by rw [ca]; simp [f0], by rw [ca]; simp, by rw [ca]; simp [f2], by rw [ca]; simp [f4], by rw [ca]; simp [f9], hs.mks, hs.nob, hs.aft, hs.ends, hs.prs, hs.most, hs.longer, hs.rng, hs.used, ?_, hs.anob, hs.aaft, hs.apar, hs.sgn, hs.sgp, hs.sgn1, hs.sgn2, hs.lnob, hs.lpar, hs.lbra, hn⟩, rfl⟩
    show c.lines + 1 = _
    rw [lines_eq, hl, f1]
    simp only [Bool.toNat_true, Bool.toNat_false]
    omega
  · rw [hf] at f2
    refine ⟨⟨by rw [ca]; simp [f0], by rw [ca]; simp [f1], by rw [ca]; simp, by rw [ca]; simp [f4], by rw [ca]; simp [f9], hs.mks, hs.nob, hs.aft, hs.ends, hs.prs, hs.most, hs.longer, hs.rng, hs.used, ?_, hs.anob, hs.aaft, hs.apar, hs.sgn, hs.sgp, hs.sgn1, hs.sgn2, hs.lnob, hs.lpar, hs.lbra, hn⟩, rfl⟩
    show c.lines + 1 = _
    rw [lines_eq, hl, f2]
    simp only [Bool.toNat_true, Bool.toNat_false]
    omega
  · rw [hf] at f4
    refine ⟨⟨by rw [ca]; simp [f0], by rw [ca]; simp [f1], by rw [ca]; simp [f2], by rw [ca]; simp, by rw [ca]; simp [f9], hs.mks, hs.nob, hs.aft, hs.ends, hs.prs, hs.most, hs.longer, hs.rng, hs.used, ?_, hs.anob, hs.aaft, hs.apar, hs.sgn, hs.sgp, hs.sgn1, hs.sgn2, hs.lnob, hs.lpar, hs.lbra, hn⟩, rfl⟩
    show c.lines + 1 = _
    rw [lines_eq, hl, f4]
    simp only [Bool.toNat_true, Bool.toNat_false]
    omega
  · rw [hf] at f9
    refine ⟨⟨by rw [ca]; simp [f0], by rw [ca]; simp [f1], by rw [ca]; simp [f2], by rw [ca]; simp [f4], by rw [ca]; simp, hs.mks, hs.nob, hs.aft, hs.ends, hs.prs, hs.most, hs.longer, hs.rng, hs.used, ?_, hs.anob, hs.aaft, hs.apar, hs.sgn, hs.sgp, hs.sgn1, hs.sgn2, hs.lnob, hs.lpar, hs.lbra, hn⟩, rfl⟩
    show c.lines + 1 = _
    rw [lines_eq, hl, f9]
    simp only [Bool.toNat_true, Bool.toNat_false]
    omega
theorem mapR_bind {α β γ : Type} {f : α → β} {x : R (α × Nat)} {g : β × Nat → R γ} : (mapR f x).bind g = x.bind fun y => g (f y.1, y.2) := by
  cases x <;> rfl
theorem optN_optV {m : Option Nat} (h : ∀ c, m = some c → c ≠ 0) : optN (optV m) = m := by
  cases m with
  | none => rfl
  | some c => exact if_neg (h c rfl)
theorem pick_mark_mem {e : UInt8} {ok : Nat → Bool} {q : Nat} {r : Bytes} {y : Option Nat × Nat} (h : offR q (pick (markThen e ok) r) = .ok y) : ∀ c, y.1 = some c → c ≠ 0 := by
  obtain ⟨z, hz, rfl⟩ := offR_ok h
  unfold pick at hz
  split at hz
  · rename_i x hx
    cases hz
    rcases List.mem_cons.mp (List.mem_of_find?_eq_some hx) with rfl | hm
    · intro c z
      cases z
    · obtain ⟨u, hu, rfl⟩ := List.mem_map.mp hm
      obtain ⟨c, hc, ho, rfl⟩ := mem_then.mp hu
      rintro c' z
      cases z
      have := (signs_lt c hc).1
      show c ≠ 0
      omega
  · cases hz
/-- signs are no zeros -/
theorem bar_eq {m : Option Nat} {c : Nat} (hc : c ∈ signs) : (some c != m) = !([optV m] : List Nat).contains c := by
  have h0 := (signs_lt c hc).1
  cases m with
  | none =>
    have : ¬ c = 0 := by omega
    simp [optV, this]
  | some d =>
    simp [optV]
    rfl
theorem rest3 (r : Bytes) : restOf k 3 r = after (pick (markThen 32 fun (_ : Nat) => true) r) r (fun (m : Option Nat) (r : Bytes) => after (pick (markThen 32 fun (c : Nat) => some c != m) r) r (fun (g : Option Nat) (s : Bytes) => after (pick (markThen 32 fun (_ : Nat) => true) s) s (fun (n : Option Nat) (t : Bytes) => after (pick (markThen 10 fun (c : Nat) => some c != n) t) t (fun (h : Option Nat) (_ : Bytes) => .ok ({ k with numbers := some ⟨m, g, n, h⟩ }, 0))))) := rfl
theorem tail3 : rTail c 3 b q = (seqE b 32 (rMark b q [])).bind fun x0 => (seqE b 32 (rMark b x0.2 [x0.1])).bind fun x1 => (seqE b 32 (rMark b x1.2 [])).bind fun x2 => (seqE b 10 (rMark b x2.2 [x2.1])).bind fun x3 => .ok ({ c with marks := some ((x0.1, x1.1), (x2.1, x3.1)) }, x3.2) := rfl
theorem tail_marks (hs : Sim o c k) (hoi : o ≤ 3) : RelR (SimN 3) (rTail c 3 b q) (offR q (restOf k 3 (b.drop q))) := by
  have hf := (hs.new 3 hoi).2.1 rfl
  rw [rest3, tail3, off_after, mark_pickE (ok := fun _ => true) (fun c _ => by simp), mapR_bind]
  refine RelR.bind fun y0 h0 => ?_
  rw [off_after, mark_pickE (ok := fun c => some c != y0.1) (fun c hc => bar_eq hc), mapR_bind]
  refine RelR.bind fun y1 h1 => ?_
  rw [off_after, mark_pickE (ok := fun _ => true) (fun c _ => by simp), mapR_bind]
  refine RelR.bind fun y2 h2 => ?_
  rw [off_after, mark_pickE (ok := fun c => some c != y2.1) (fun c hc => bar_eq hc), mapR_bind]
  refine RelR.bind fun y3 h3 => ?_
  refine ⟨⟨hs.f0, hs.f1, hs.f2, hs.f4, hs.f9, ?_, hs.nob, hs.aft, hs.ends, hs.prs, hs.most, hs.longer, hs.rng, hs.used, ?_, hs.anob, hs.aaft, hs.apar, hs.sgn, hs.sgp, hs.sgn1, hs.sgn2, hs.lnob, hs.lpar, hs.lbra, fun j hj => ?_⟩, rfl⟩
  · show (⟨y0.1, y1.1, y2.1, y3.1⟩ : Marks) = ⟨optN (optV y0.1), optN (optV y1.1), optN (optV y2.1), optN (optV y3.1)⟩
    rw [optN_optV (pick_mark_mem h0), optN_optV (pick_mark_mem h1), optN_optV (pick_mark_mem h2), optN_optV (pick_mark_mem h3)]
  · have hl := hs.lines
    have hm := hs.mks
    rw [hf] at hm
    have hk : k.numbers = none := by
      cases hk : k.numbers with
      | none => rfl
      | some m =>
        rw [hk] at hm
        exact hm.elim
    show c.lines + 1 = _
    rw [hl, lines_eq, lines_eq, hk]
    simp only [Option.toList_none, Option.toList_some, List.length_nil, List.length_singleton]
    omega
  · have := hs.new j (by omega)
    exact ⟨this.1, fun z => by omega, this.2.2⟩
end
end Tc
namespace Tc
open Fh FhCheck
theorem len_sub : ∀ {l m : List Nat}, l.Nodup → (∀ x ∈ l, x ∈ m) → l.length ≤ m.length
  | [], m, _, _ => Nat.zero_le _
  | x :: l, m, nd, h => by
    have nd' := List.nodup_cons.mp nd
    have hx := h x List.mem_cons_self
    have := len_sub (l := l) (m := m.erase x) nd'.2 fun y hy => (List.mem_erase_of_ne (fun e => nd'.1 (by rw [← e]; exact hy))).mpr (h y (List.mem_cons_of_mem _ hy))
    rw [List.length_erase_of_mem hx] at this
    have p : 0 < m.length := List.length_pos_of_mem hx
    show l.length + 1 ≤ m.length
    omega
theorem signs_nd : signs.Nodup := by decide +kernel
theorem signs_len : signs.length = 225 := by decide +kernel
/-- of many signs some are free -/
theorem free_sign {m : List Nat} (h : m.length < 225) : ∃ d ∈ signs, m.contains d = false := by
  refine Classical.byContradiction fun hn => ?_; have : ∀ d ∈ signs, d ∈ m := fun d hd => by
    refine Classical.byContradiction fun hm => hn ⟨d, hd, ?_⟩
    simpa using hm
  have := len_sub signs_nd this
  rw [signs_len] at this
  omega
theorem last_sign : 12351 ∈ signs := by decide +kernel
section
variable {o : Nat} {c : CL} {k : Checks} {b : Bytes} {q : Nat}
theorem rest5 (r : Bytes) : restOf k 5 r = after (pick (signsThen 10 (nobeforeOk k)) r) r (fun (c : Nat) (_ : Bytes) => .ok ({ k with nobefore := k.nobefore ++ [c] }, 0)) := rfl
theorem tail5e : rTail c 5 b q = (seqE b 10 (rSign b q (afterAll c.nob) [])).bind fun x => .ok ({ c with nob := addN c.nob x.1 }, x.2) := rfl
theorem rest6 (r : Bytes) : restOf k 6 r = after (pick (signsThen 10 (beforeOk k)) r) r (fun (c : Nat) (_ : Bytes) => .ok ({ k with before := k.before ++ [c] }, 0)) := rfl
theorem tail6e : rTail c 6 b q = (seqE b 10 (rSign b q (afterAll c.aft) c.nob)).bind fun x => .ok ({ c with aft := addN c.aft x.1 }, x.2) := rfl
theorem nob_ok (hs : Sim o c k) (x : Nat) : nobeforeOk k x = (decide (afterAll c.nob ≤ x) && !([] : List Nat).contains x) := by
  unfold nobeforeOk
  rw [hs.nob, ← hs.anob]
  simp
theorem aft_ok (hs : Sim o c k) (x : Nat) : beforeOk k x = (decide (afterAll c.aft ≤ x) && !c.nob.contains x) := by
  unfold beforeOk
  rw [hs.nob, hs.aft, ← hs.aaft]
theorem tail_5 (hs : Sim o c k) (hoi : o ≤ 6) (hl : c.nob.length < 64) : RelR (SimN 5) (rTail c 5 b q) (offR q (restOf k 5 (b.drop q))) := by
  rw [rest5, tail5e, off_after, sign_pickE (ok := nobeforeOk k) (fun x _ => nob_ok hs x)]
  refine RelR.bind fun y hy => ?_
  obtain ⟨hm, ho⟩ := pick_sign_mem hy
  rw [nob_ok hs, Bool.and_eq_true, decide_eq_true_eq] at ho
  have en := addN_new (after_not ho.1)
  refine ⟨⟨hs.f0, hs.f1, hs.f2, hs.f4, hs.f9, hs.mks, ?_, hs.aft, hs.ends, hs.prs, hs.most, hs.longer, hs.rng, hs.used, ?_, ?_, hs.aaft, hs.apar, hs.sgn, hs.sgp, ?_, hs.sgn2, ?_, hs.lpar, hs.lbra, fun j hj => ?_⟩, rfl⟩
  · show k.nobefore ++ [y.1] = addN c.nob y.1
    rw [hs.nob, en]
  · show c.lines + 1 = _
    rw [hs.lines, lines_eq, lines_eq]
    simp only [List.length_append, List.length_singleton]; omega
  · show afterAll (addN c.nob y.1) = ended (addN c.nob y.1)
    rw [en, after_snoc ho.1, ended_snoc]
  · show ∀ x ∈ addN c.nob y.1, x ∈ signs
    intro x hx
    rcases mem_addN hx with h | rfl
    · exact hs.sgn1 x h
    · exact hm
  · show (addN c.nob y.1).length ≤ 64
    rw [en, List.length_append, List.length_singleton]
    omega
  · have := hs.new j (by omega)
    exact ⟨this.1, this.2.1, fun z => by omega, this.2.2.2⟩
theorem tail_6 (hs : Sim o c k) (hoi : o ≤ 7) : RelR (SimN 6) (rTail c 6 b q) (offR q (restOf k 6 (b.drop q))) := by
  rw [rest6, tail6e, off_after, sign_pickE (ok := beforeOk k) (fun x _ => aft_ok hs x)]
  refine RelR.bind fun y hy => ?_
  obtain ⟨hm, ho⟩ := pick_sign_mem hy
  rw [aft_ok hs, Bool.and_eq_true, decide_eq_true_eq] at ho
  have en := addN_new (after_not ho.1)
  refine ⟨⟨hs.f0, hs.f1, hs.f2, hs.f4, hs.f9, hs.mks, hs.nob, ?_, hs.ends, hs.prs, hs.most, hs.longer, hs.rng, hs.used, ?_, hs.anob, ?_, hs.apar, hs.sgn, hs.sgp, hs.sgn1, ?_, hs.lnob, hs.lpar, hs.lbra, fun j hj => ?_⟩, rfl⟩
  · show k.before ++ [y.1] = addN c.aft y.1
    rw [hs.aft, en]
  · show c.lines + 1 = _
    rw [hs.lines, lines_eq, lines_eq]
    simp only [List.length_append, List.length_singleton]; omega
  · show afterAll (addN c.aft y.1) = ended (addN c.aft y.1)
    rw [en, after_snoc ho.1, ended_snoc]
  · show ∀ x ∈ addN c.aft y.1, x ∈ signs
    intro x hx
    rcases mem_addN hx with h | rfl
    · exact hs.sgn2 x h
    · exact hm
  · have := hs.new j (by omega)
    exact ⟨this.1, this.2.1, this.2.2.1, fun z => by omega, this.2.2.2.2⟩
/-! the ends -/
theorem rest7 (r : Bytes) : restOf k 7 r = after (pick (signsThen 32 (endOk k)) r) r (fun (c : Nat) (r : Bytes) => after (pick (signsThen 10 (endBothOk k c)) r) r (fun (d : Nat) (_ : Bytes) => .ok ({ k with ends := k.ends ++ [(c, d)] }, 0))) := rfl
theorem tail7e : rTail c 7 b q = (seqE b 32 (rSign b q (leastE c) [])).bind fun x => (seqE b 10 (rSign b x.2 (if x.1 = (lastE c).1 then (lastE c).2 + 1 else 0) [])).bind fun y => .ok ({ c with ends := c.ends ++ [(x.1, y.1)] }, y.2) := rfl
theorem end_ok (hs : Sim o c k) (x : Nat) : endOk k x = (decide (leastE c ≤ x) && !([] : List Nat).contains x) := by
  have e0 : (decide (leastE c ≤ x) && !([] : List Nat).contains x) = decide (leastE c ≤ x) := by simp
  rw [e0]
  unfold endOk leastE lastE
  rw [Bool.eq_iff_iff, List.any_eq_true, decide_eq_true_eq]; unfold endBothOk
  rw [hs.ends]
  cases hl : c.ends.getLast? with
  | none =>
    constructor
    · intro _
      show (if (0 : Nat) = 12351 then 0 + 1 else 0) ≤ x
      simp
    · intro _
      exact ⟨12351, last_sign, rfl⟩
  | some y =>
    have hy := hs.sgn y (List.mem_of_getLast? hl)
    have l2 := (signs_lt _ hy.2).2.1
    show (∃ d ∈ signs, (decide (y.1 < x) || (y.1 == x && decide (y.2 < d))) = true) ↔ (if y.2 = 12351 then y.1 + 1 else y.1) ≤ x
    simp only [Bool.or_eq_true, Bool.and_eq_true, decide_eq_true_eq, beq_iff_eq]
    constructor
    · rintro ⟨d, hd, h | ⟨h1, h2⟩⟩
      · split <;> omega
      · have := (signs_lt d hd).2.1
        rw [if_neg (by omega)]
        omega
    · intro h
      refine ⟨12351, last_sign, ?_⟩
      split at h <;> omega
theorem endb_ok (hs : Sim o c k) {x : Nat} (hx : x ∈ signs) (h : leastE c ≤ x) (d : Nat) : endBothOk k x d = (decide ((if x = (lastE c).1 then (lastE c).2 + 1 else 0) ≤ d) && !([] : List Nat).contains d) := by
  have x0 := (signs_lt x hx).1
  have e0 : ∀ n : Nat, (decide (n ≤ d) && !([] : List Nat).contains d) = decide (n ≤ d) := fun n => by simp
  rw [e0]
  unfold leastE at h
  unfold lastE at h ⊢
  unfold endBothOk
  rw [hs.ends]
  cases hl : c.ends.getLast? with
  | none =>
    show true = decide ((if x = 0 then 0 + 1 else 0) ≤ d)
    rw [if_neg (by omega)]
    simp
  | some y =>
    rw [hl] at h
    have h : (if y.2 = 12351 then y.1 + 1 else y.1) ≤ x := h
    show (decide (y.1 < x) || (y.1 == x && decide (y.2 < d))) = decide ((if x = y.1 then y.2 + 1 else 0) ≤ d)
    by_cases e : x = y.1
    · subst e
      rw [if_pos rfl]
      simp
      omega
    · have : y.1 < x := by split at h <;> omega
      rw [if_neg e]
      simp [this]
theorem tail_7 (hs : Sim o c k) (hoi : o ≤ 8) : RelR (SimN 7) (rTail c 7 b q) (offR q (restOf k 7 (b.drop q))) := by
  rw [rest7, tail7e, off_after, sign_pickE (ok := endOk k) (fun x _ => end_ok hs x)]
  refine RelR.bind fun y hy => ?_
  obtain ⟨hm, ho⟩ := pick_sign_mem hy
  rw [end_ok hs, Bool.and_eq_true, decide_eq_true_eq] at ho
  rw [off_after, sign_pickE (ok := endBothOk k y.1) (fun d _ => endb_ok hs hm ho.1 d)]
  refine RelR.bind fun z hz => ?_
  obtain ⟨hm2, ho2⟩ := pick_sign_mem hz
  refine ⟨⟨hs.f0, hs.f1, hs.f2, hs.f4, hs.f9, hs.mks, hs.nob, hs.aft, ?_, hs.prs, hs.most, hs.longer, hs.rng, hs.used, ?_, hs.anob, hs.aaft, hs.apar, ?_, hs.sgp, hs.sgn1, hs.sgn2, hs.lnob, hs.lpar, hs.lbra, fun j hj => ?_⟩, rfl⟩
  · show k.ends ++ [(y.1, z.1)] = c.ends ++ [(y.1, z.1)]
    rw [hs.ends]
  · show c.lines + 1 = _
    rw [hs.lines, lines_eq, lines_eq]
    simp only [List.length_append, List.length_singleton]; omega
  · show ∀ x ∈ c.ends ++ [(y.1, z.1)], x.1 ∈ signs ∧ x.2 ∈ signs
    intro x hx
    rcases List.mem_append.mp hx with h | h
    · exact hs.sgn x h
    · simp at h
      subst h
      exact ⟨hm, hm2⟩
  · have := hs.new j (by omega)
    exact ⟨this.1, this.2.1, this.2.2.1, this.2.2.2.1, fun z => by omega, this.2.2.2.2.2⟩
/-! the pairs -/
theorem rest8 (r : Bytes) : restOf k 8 r = after (pick (signsThen 32 (pairOk k)) r) r (fun (c : Nat) (r : Bytes) => after (pick (signsThen 10 (pairBothOk k c)) r) r (fun (d : Nat) (_ : Bytes) => .ok ({ k with pairs := k.pairs ++ [(c, d)] }, 0))) := rfl
theorem tail8e : rTail c 8 b q = (seqE b 32 (rSign b q (afterAll (c.pairs.map Prod.fst)) c.bra)).bind fun x => (seqE b 10 (rSign b x.2 0 (addN c.bra x.1))).bind fun y => .ok ({ c with pairs := putP c.pairs x.1 y.1, bra := addN (addN c.bra x.1) y.1 }, y.2) := rfl
theorem pairb_ok (hs : Sim o c k) (x d : Nat) : pairBothOk k x d = (decide (0 ≤ d) && !(addN c.bra x).contains d) := by
  unfold pairBothOk
  rw [contains_addN, hs.used d]
  cases used k d with
  | true => simp
  | false =>
    by_cases e : x = d
    · subst e
      simp
    · have e2 : ¬ d = x := fun z => e z.symm
      simp only [bne]
      rw [show (x == d) = false from by simpa using e, show (d == x) = false from by simpa using e2]
      simp
theorem pair_ok (hs : Sim o c k) (x : Nat) : pairOk k x = (decide (afterAll (c.pairs.map Prod.fst) ≤ x) && !c.bra.contains x) := by
  have hany : signs.any (pairBothOk k x) = true := by
    have l1 := hs.lbra
    have l2 := hs.lpar
    have l3 := len_addN c.bra x
    obtain ⟨d, hd, h⟩ := free_sign (m := addN c.bra x) (by omega)
    rw [List.any_eq_true]
    refine ⟨d, hd, ?_⟩
    rw [pairb_ok hs, h]
    simp
  unfold pairOk
  rw [hany, Bool.and_true, hs.used x, hs.prs, ← hs.apar]
theorem putP_new {l : List (Nat × Nat)} {x d : Nat} (h : (l.map Prod.fst).contains x = false) : putP l x d = l ++ [(x, d)] := by
  unfold putP
  have : (l.any fun y => y.1 == x) = false := by
    rw [List.any_eq_false]
    intro y hy
    have h2 : ¬ x ∈ l.map Prod.fst := by simpa using h
    have : ¬ y.1 = x := fun e => h2 (List.mem_map.mpr ⟨y, hy, e⟩)
    simpa using this
  rw [this, if_neg Bool.false_ne_true]
theorem tail_8 (hs : Sim o c k) (hoi : o ≤ 9) (hl : c.pairs.length < 64) : RelR (SimN 8) (rTail c 8 b q) (offR q (restOf k 8 (b.drop q))) := by
  rw [rest8, tail8e, off_after, sign_pickE (ok := pairOk k) (fun x _ => pair_ok hs x)]
  refine RelR.bind fun y hy => ?_
  obtain ⟨hm, ho⟩ := pick_sign_mem hy
  rw [pair_ok hs, Bool.and_eq_true, decide_eq_true_eq] at ho
  rw [off_after, sign_pickE (ok := pairBothOk k y.1) (fun d _ => pairb_ok hs y.1 d)]
  refine RelR.bind fun z hz => ?_
  obtain ⟨hm2, ho2⟩ := pick_sign_mem hz
  have en := putP_new (d := z.1) (after_not ho.1)
  have l1 := len_addN c.bra y.1
  have l2 := len_addN (addN c.bra y.1) z.1
  have l3 := hs.lbra
  refine ⟨⟨hs.f0, hs.f1, hs.f2, hs.f4, hs.f9, hs.mks, hs.nob, hs.aft, hs.ends, ?_, hs.most, hs.longer, hs.rng, ?_, ?_, hs.anob, hs.aaft, ?_, hs.sgn, ?_, hs.sgn1, hs.sgn2, hs.lnob, ?_, ?_, fun j hj => ?_⟩, rfl⟩
  · show k.pairs ++ [(y.1, z.1)] = putP c.pairs y.1 z.1
    rw [hs.prs, en]
  · intro x
    show (addN (addN c.bra y.1) z.1).contains x = used { k with pairs := k.pairs ++ [(y.1, z.1)] } x
    have e : used { k with pairs := k.pairs ++ [(y.1, z.1)] } x = (used k x || (y.1 == x || z.1 == x)) := by
      unfold used
      rw [List.any_append]
      simp
    rw [e, contains_addN, contains_addN, hs.used x, Bool.or_assoc]
    congr 1
    rw [Bool.eq_iff_iff]
    simp
    constructor
    · rintro (h | h)
      · exact .inl h.symm
      · exact .inr h.symm
    · rintro (h | h)
      · exact .inl h.symm
      · exact .inr h.symm
  · show c.lines + 1 = _
    rw [hs.lines, lines_eq, lines_eq]
    simp only [List.length_append, List.length_singleton]; omega
  · show afterAll ((putP c.pairs y.1 z.1).map Prod.fst) = ended ((putP c.pairs y.1 z.1).map Prod.fst)
    rw [en, List.map_append]
    show afterAll (c.pairs.map Prod.fst ++ [y.1]) = ended (c.pairs.map Prod.fst ++ [y.1])
    rw [after_snoc ho.1, ended_snoc]
  · show ∀ x ∈ putP c.pairs y.1 z.1, x.1 ∈ signs ∧ x.2 ∈ signs
    rw [en]
    intro x hx
    rcases List.mem_append.mp hx with h | h
    · exact hs.sgp x h
    · simp at h
      subst h
      exact ⟨hm, hm2⟩
  · show (putP c.pairs y.1 z.1).length ≤ 64
    rw [en, List.length_append, List.length_singleton]
    omega
  · show (addN (addN c.bra y.1) z.1).length ≤ 2 * (putP c.pairs y.1 z.1).length
    rw [en, List.length_append, List.length_singleton]
    omega
  · have := hs.new j (by omega)
    exact ⟨this.1, this.2.1, this.2.2.1, this.2.2.2.1, this.2.2.2.2.1, fun z => by omega, this.2.2.2.2.2.2⟩
/-! numbers -/
theorem more_ok {lo hi : Nat} {e : UInt8} : ∀ {r : Bytes} {k v : Nat} {x : Nat × Nat}, moreDigits lo hi e k v r = .ok x → lo ≤ x.1 ∧ x.1 ≤ hi
  | [], k, v, x, h => by cases h
  | c :: r, k, v, x, h => by
    unfold moreDigits at h
    split at h
    · exact more_ok h
    · split at h
      · rename_i z
        cases h
        have := z.2
        unfold within at this
        simpa using this
      · cases h
theorem num_ok {lo hi : Nat} {e : UInt8} {r : Bytes} {q : Nat} {x : Nat × Nat} (h : offR q (numberThen lo hi e r) = .ok x) : lo ≤ x.1 ∧ x.1 ≤ hi := by
  obtain ⟨z, hz, rfl⟩ := offR_ok h
  unfold numberThen at hz
  split at hz
  · cases hz
  · split at hz
    · exact more_ok (x := z) hz
    · cases hz
theorem rest10 (r : Bytes) : restOf k 10 r = after (numberThen 1 4096 10 r) r (fun (n : Nat) (_ : Bytes) => .ok ({ k with most := some n }, 0)) := rfl
theorem rest11 (r : Bytes) : restOf k 11 r = after (numberThen 1 100000 10 r) r (fun (n : Nat) (_ : Bytes) => .ok ({ k with longer := some n }, 0)) := rfl
theorem rest12 (r : Bytes) : restOf k 12 r = after (numberThen (notFrom k) 1114111 45 r) r (fun (n : Nat) (r : Bytes) => after (numberThen n 1114111 10 r) r (fun (m : Nat) (_ : Bytes) => .ok ({ k with ranges := k.ranges ++ [(n, m)] }, 0))) := rfl
theorem tail10e : rTail c 10 b q = (seqE b 10 (rNum b q 1 4096)).bind fun x => .ok ({ c with most := x.1 }, x.2) := rfl
theorem tail11e : rTail c 11 b q = (seqE b 10 (rNum b q 1 100000)).bind fun x => .ok ({ c with longer := x.1 }, x.2) := rfl
theorem tail12e : rTail c 12 b q = (seqE b 45 (rNum b q (leastR c) 1114111)).bind fun x => (seqE b 10 (rNum b x.2 x.1 1114111)).bind fun y => .ok ({ c with ranges := c.ranges ++ [(x.1, y.1)] }, y.2) := rfl
theorem tail_10 (hs : Sim o c k) (hoi : o ≤ 10) : RelR (SimN 10) (rTail c 10 b q) (offR q (restOf k 10 (b.drop q))) := by
  have hf := (hs.new 10 hoi).2.2.2.2.2.2.1 rfl
  rw [rest10, tail10e, off_after, num_pickE (by decide)]
  refine RelR.bind fun y hy => ?_
  have hy := num_ok hy
  have hk : k.most = none := by rw [hs.most, hf]; rfl
  refine ⟨⟨hs.f0, hs.f1, hs.f2, hs.f4, hs.f9, hs.mks, hs.nob, hs.aft, hs.ends, hs.prs, ?_, hs.longer, hs.rng, hs.used, ?_, hs.anob, hs.aaft, hs.apar, hs.sgn, hs.sgp, hs.sgn1, hs.sgn2, hs.lnob, hs.lpar, hs.lbra, fun j hj => ?_⟩, rfl⟩
  · show some y.1 = optN y.1
    rw [optN, if_neg (by omega)]
  · show c.lines + 1 = _
    rw [hs.lines, lines_eq, lines_eq, hk]
    simp only [Option.toList_none, Option.toList_some, List.length_nil, List.length_singleton]
    omega
  · have := hs.new j (by omega)
    exact ⟨this.1, this.2.1, this.2.2.1, this.2.2.2.1, this.2.2.2.2.1, this.2.2.2.2.2.1, fun z => by omega, this.2.2.2.2.2.2.2⟩
theorem tail_11 (hs : Sim o c k) (hoi : o ≤ 11) : RelR (SimN 11) (rTail c 11 b q) (offR q (restOf k 11 (b.drop q))) := by
  have hf := (hs.new 11 hoi).2.2.2.2.2.2.2.1 rfl
  rw [rest11, tail11e, off_after, num_pickE (by decide)]
  refine RelR.bind fun y hy => ?_
  have hy := num_ok hy
  have hk : k.longer = none := by rw [hs.longer, hf]; rfl
  refine ⟨⟨hs.f0, hs.f1, hs.f2, hs.f4, hs.f9, hs.mks, hs.nob, hs.aft, hs.ends, hs.prs, hs.most, ?_, hs.rng, hs.used, ?_, hs.anob, hs.aaft, hs.apar, hs.sgn, hs.sgp, hs.sgn1, hs.sgn2, hs.lnob, hs.lpar, hs.lbra, fun j hj => ?_⟩, rfl⟩
  · show some y.1 = optN y.1
    rw [optN, if_neg (by omega)]
  · show c.lines + 1 = _
    rw [hs.lines, lines_eq, lines_eq, hk]
    simp only [Option.toList_none, Option.toList_some, List.length_nil, List.length_singleton]
    omega
  · have := hs.new j (by omega)
    exact ⟨this.1, this.2.1, this.2.2.1, this.2.2.2.1, this.2.2.2.2.1, this.2.2.2.2.2.1, this.2.2.2.2.2.2.1, fun z => by omega, this.2.2.2.2.2.2.2.2⟩
theorem from_eq (hs : Sim o c k) : notFrom k = leastR c := by
  unfold notFrom leastR ended
  rw [hs.rng, List.getLast?_map]
  cases c.ranges.getLast? with
  | none => rfl
  | some x => rfl
theorem tail_12 (hs : Sim o c k) (hoi : o ≤ 13) : RelR (SimN 12) (rTail c 12 b q) (offR q (restOf k 12 (b.drop q))) := by
  rw [rest12, tail12e, off_after, num_pickE (by decide), from_eq hs]
  refine RelR.bind fun y hy => ?_
  rw [off_after, num_pickE (by decide)]
  refine RelR.bind fun z hz => ?_
  refine ⟨⟨hs.f0, hs.f1, hs.f2, hs.f4, hs.f9, hs.mks, hs.nob, hs.aft, hs.ends, hs.prs, hs.most, hs.longer, ?_, hs.used, ?_, hs.anob, hs.aaft, hs.apar, hs.sgn, hs.sgp, hs.sgn1, hs.sgn2, hs.lnob, hs.lpar, hs.lbra, fun j hj => ?_⟩, rfl⟩
  · show k.ranges ++ [(y.1, z.1)] = c.ranges ++ [(y.1, z.1)]
    rw [hs.rng]
  · show c.lines + 1 = _
    rw [hs.lines, lines_eq, lines_eq]
    simp only [List.length_append, List.length_singleton]; omega
  · have := hs.new j (by omega)
    exact ⟨this.1, this.2.1, this.2.2.1, this.2.2.2.1, this.2.2.2.2.1, this.2.2.2.2.2.1, this.2.2.2.2.2.2.1, this.2.2.2.2.2.2.2.1, fun z => by omega⟩
end
end Tc
namespace Tc
open Fh FhCheck
/-! ### plain: which words may stand -/
def cand (o : Nat) (c : CL) (i : Nat) : Bool := decide (o ≤ i + 1) && (decide (o ≤ i) || mayRep c i)
theorem any_congr {p q : Nat → Bool} : ∀ {l : List Nat}, (∀ x ∈ l, p x = q x) → l.any p = l.any q
  | [], _ => rfl
  | x :: l, h => by
    rw [List.any_cons, List.any_cons, h x List.mem_cons_self, any_congr fun y hy => h y (List.mem_cons_of_mem _ hy)]
theorem good_eq {lo : Nat} {ks : List Nat} {x : Nat} (hx : x ∈ signs) : goodSign lo 12351 ks x = (decide (lo ≤ x) && !ks.contains x) := by
  have := (signs_lt x hx).2.1
  unfold goodSign
  rw [decide_eq_true this, Bool.true_and]
section
variable {o : Nat} {c : CL} {k : Checks}
theorem may_plain {i : Nat} (h : i ≠ 5 ∧ i ≠ 6 ∧ i ≠ 7 ∧ i ≠ 8 ∧ i ≠ 12) : mayRep c i = false := by
  unfold mayRep
  rw [if_neg h.1, if_neg h.2.1, if_neg h.2.2.1, if_neg h.2.2.2.1, if_neg h.2.2.2.2]
/-- a sort that may be told again: the specification's condition -/
theorem rep_of {i len : Nat} {p : Bool} (h1 : o ≤ i → p = true ∧ len = 0) (h2 : mayRep c i = (decide (len < 64) && p)) : (p && (decide (o ≤ i + 1) && decide (len < MANY))) = cand o c i := by
  unfold cand MANY
  by_cases a : o ≤ i
  · obtain ⟨e1, e2⟩ := h1 a
    subst e1 e2
    rw [decide_eq_true a, decide_eq_true (show o ≤ i + 1 by omega)]
    rfl
  · rw [decide_eq_false a, h2]
    cases p <;> cases decide (o ≤ i + 1) <;> cases decide (len < 64) <;> rfl
theorem cand5 (hs : Sim o c k) : (signs.any (nobeforeOk k) && (decide (o ≤ 5 + 1) && decide (k.nobefore.length < MANY))) = cand o c 5 := by
  refine rep_of (fun h => ?_) ?_
  · have hf := (hs.new 5 h).2.2.1 rfl
    rw [hs.nob, hf]
    refine ⟨List.any_eq_true.mpr ⟨12351, last_sign, ?_⟩, rfl⟩
    rw [nob_ok hs, hf]
    rfl
  · show (decide (c.nob.length < 64) && someSign (afterAll c.nob) 12351 []) = _
    rw [hs.nob]
    congr 1
    exact any_congr fun x hx => by rw [good_eq hx, nob_ok hs]
theorem cand6 (hs : Sim o c k) : (signs.any (beforeOk k) && (decide (o ≤ 6 + 1) && decide (k.before.length < MANY))) = cand o c 6 := by
  refine rep_of (fun h => ?_) ?_
  · have hf := (hs.new 6 h).2.2.2.1 rfl
    rw [hs.aft, hf]
    have := hs.lnob
    obtain ⟨d, hd, hn⟩ := free_sign (m := c.nob) (by omega)
    refine ⟨List.any_eq_true.mpr ⟨d, hd, ?_⟩, rfl⟩
    rw [aft_ok hs, hf, hn]
    rfl
  · show (decide (c.aft.length < 64) && someSign (afterAll c.aft) 12351 c.nob) = _
    rw [hs.aft]
    congr 1
    exact any_congr fun x hx => by rw [good_eq hx, aft_ok hs]
theorem cand7 (hs : Sim o c k) : (signs.any (endOk k) && (decide (o ≤ 7 + 1) && decide (k.ends.length < MANY))) = cand o c 7 := by
  refine rep_of (fun h => ?_) ?_
  · have hf := (hs.new 7 h).2.2.2.2.1 rfl
    rw [hs.ends, hf]
    refine ⟨List.any_eq_true.mpr ⟨12351, last_sign, ?_⟩, rfl⟩
    rw [end_ok hs]
    unfold leastE lastE
    rw [hf]
    rfl
  · show (decide (c.ends.length < 64) && decide (c.ends.getLast? ≠ some (12351, 12351))) = _
    rw [hs.ends]
    congr 1
    rw [Bool.eq_iff_iff, decide_eq_true_eq, List.any_eq_true]
    constructor
    · intro h
      refine ⟨12351, last_sign, ?_⟩
      rw [end_ok hs]
      have : leastE c ≤ 12351 := by
        unfold leastE lastE
        cases hl : c.ends.getLast? with
        | none => decide
        | some y =>
          have hy := hs.sgn y (List.mem_of_getLast? hl)
          have l1 := (signs_lt _ hy.1).2.1
          have l2 := (signs_lt _ hy.2).2.1
          show (if y.2 = 12351 then y.1 + 1 else y.1) ≤ 12351
          split
          · rename_i e
            have : y.1 ≠ 12351 := fun e1 => h (by rw [hl]; exact congrArg some (Prod.ext e1 e))
            omega
          · exact l1
      simp [this]
    · rintro ⟨x, hx, h⟩ z
      rw [end_ok hs] at h
      have hx2 := (signs_lt x hx).2.1
      have : leastE c = 12352 := by
        unfold leastE lastE
        rw [z]
        rfl
      rw [this] at h
      simp at h
      omega
theorem cand8 (hs : Sim o c k) : (signs.any (pairOk k) && (decide (o ≤ 8 + 1) && decide (k.pairs.length < MANY))) = cand o c 8 := by
  refine rep_of (fun h => ?_) ?_
  · have hf := (hs.new 8 h).2.2.2.2.2.1 rfl
    rw [hs.prs, hf.1]
    refine ⟨List.any_eq_true.mpr ⟨12351, last_sign, ?_⟩, rfl⟩
    rw [pair_ok hs, hf.1, hf.2]
    rfl
  · show (decide (c.pairs.length < 64) && someSign (afterAll (c.pairs.map Prod.fst)) 12351 c.bra) = _
    rw [hs.prs]
    congr 1
    exact any_congr fun x hx => by rw [good_eq hx, pair_ok hs]
theorem cand12 (hs : Sim o c k) : (decide (notFrom k ≤ 1114111) && (decide (o ≤ 12 + 1) && decide (k.ranges.length < MANY))) = cand o c 12 := by
  refine rep_of (fun h => ?_) ?_
  · have hf := (hs.new 12 h).2.2.2.2.2.2.2.2 rfl
    rw [from_eq hs, hs.rng]
    refine ⟨?_, by rw [hf]; rfl⟩
    unfold leastR
    rw [hf]
    rfl
  · show (decide (c.ranges.length < 64) && decide (∀ x ∈ c.ranges.getLast?, x.2 < 1114111)) = _
    rw [from_eq hs, hs.rng]
    congr 1
    unfold leastR
    cases c.ranges.getLast? with
    | none => simp
    | some x =>
      rw [decide_eq_decide]
      constructor
      · intro h
        have := h x rfl
        show x.2 + 1 ≤ _
        omega
      · rintro h y hy
        cases hy
        have h : x.2 + 1 ≤ 1114111 := h
        omega
theorem candP {i : Nat} (h : i ≠ 5 ∧ i ≠ 6 ∧ i ≠ 7 ∧ i ≠ 8 ∧ i ≠ 12) : (true && decide (o ≤ i)) = cand o c i := by
  unfold cand
  rw [may_plain h, Bool.or_false]
  by_cases a : o ≤ i
  · rw [decide_eq_true a, decide_eq_true (show o ≤ i + 1 by omega)]
  · rw [decide_eq_false a, Bool.and_false, Bool.and_false]
def wordsL (o : Nat) (c : CL) : List (Bytes × Nat) := ((List.range 13).filter (cand o c)).map fun i => (fw i, i)
theorem fw_W : [W "empty\n", W "same\n", W "tags\n", W "numbers ", W "blanks\n", W "nobefore ", W "before ", W "end ", W "pair ", W "twice\n", W "most ", W "longer ", W "not "] = (List.range 13).map fw := by decide +kernel
theorem words_of (hs : Sim o c k) : wordsFor k o = wordsL o c := by
  have ew := fw_W
  simp only [List.range_succ, List.range_zero, List.nil_append, List.map_append, List.map_cons, List.map_nil, List.cons_append, List.cons.injEq, and_true] at ew
  obtain ⟨w0, w1, w2, w3, w4, w5, w6, w7, w8, w9, w10, w11, w12⟩ := ew
  have l13 : List.range 13 = [0, 1, 2, 3, 4, 5, 6, 7, 8, 9, 10, 11, 12] := rfl
  unfold wordsL wordsFor
  rw [w0, w1, w2, w3, w4, w5, w6, w7, w8, w9, w10, w11, w12, l13]
  have c5 := cand5 hs
  have c6 := cand6 hs
  have c7 := cand7 hs
  have c8 := cand8 hs
  have c12 := cand12 hs
  have f0 : (true && decide (o ≤ 0)) = cand o c 0 := candP (by decide)
  have f1 : (true && decide (o ≤ 1)) = cand o c 1 := candP (by decide)
  have f2 : (true && decide (o ≤ 2)) = cand o c 2 := candP (by decide)
  have f3 : (true && decide (o ≤ 3)) = cand o c 3 := candP (by decide)
  have f4 : (true && decide (o ≤ 4)) = cand o c 4 := candP (by decide)
  have f9 : (true && decide (o ≤ 9)) = cand o c 9 := candP (by decide)
  have f10 : (true && decide (o ≤ 10)) = cand o c 10 := candP (by decide)
  have f11 : (true && decide (o ≤ 11)) = cand o c 11 := candP (by decide)
  have lhs : ∀ (l : List (Bytes × Nat × Bool)) (l2 : List Nat) (p : Bytes × Nat × Bool → Bool), l.map (fun x => (x.1, x.2.1)) = l2.map (fun i => (fw i, i)) → l.map p = l2.map (cand o c) → (l.filter p).map (fun x => (x.1, x.2.1)) = (l2.filter (cand o c)).map (fun i => (fw i, i)) := by
    intro l
    induction l with
    | nil =>
      intro l2 p h1 h2
      cases l2 with
      | nil => rfl
      | cons y l2 => cases h1
    | cons x l ih =>
      intro l2 p h1 h2
      cases l2 with
      | nil => cases h1
      | cons y l2 =>
        rw [List.map_cons, List.map_cons] at h1 h2
        injection h1 with h1 h3
        injection h2 with h2 h4
        rw [List.filter_cons, List.filter_cons, h2]
        cases cand o c y with
        | true =>
          rw [if_pos rfl, if_pos rfl, List.map_cons, List.map_cons, h1, ih l2 p h3 h4]
        | false =>
          rw [if_neg Bool.false_ne_true, if_neg Bool.false_ne_true, ih l2 p h3 h4]
  refine lhs _ _ _ rfl ?_
  show [true && decide (o ≤ 0), true && decide (o ≤ 1), true && decide (o ≤ 2), true && decide (o ≤ 3), true && decide (o ≤ 4), signs.any (nobeforeOk k) && (decide (o ≤ 5 + 1) && decide (k.nobefore.length < MANY)), signs.any (beforeOk k) && (decide (o ≤ 6 + 1) && decide (k.before.length < MANY)),
    signs.any (endOk k) && (decide (o ≤ 7 + 1) && decide (k.ends.length < MANY)), signs.any (pairOk k) && (decide (o ≤ 8 + 1) && decide (k.pairs.length < MANY)), true && decide (o ≤ 9), true && decide (o ≤ 10), true && decide (o ≤ 11), decide (notFrom k ≤ 1114111) && (decide (o ≤ 12 + 1) && decide (k.ranges.length < MANY))] = _
  rw [f0, f1, f2, f3, f4, c5, c6, c7, c8, f9, f10, f11, c12]
  rfl
end
end Tc
namespace Tc
open Fh FhCheck
/-! ### plain: a line, a list -/
section
variable {k : CL} {o : Nat} {b : Bytes} {p : Nat}
abbrev tryI (k : CL) (o i : Nat) : Bool := decide (o ≤ i) || mayRep k i
/-- none of the sorts stands there -/
theorem rl_err : ∀ {n c far : Nat}, (∀ i, c ≤ i → i < c + n → tryI k o i = true → ∃ e, rSort k i b p = .error e) →
    ∃ m, rlGo k o b p n c far = .error m ∧ far ≤ m ∧ (∀ i e, c ≤ i → i < c + n → tryI k o i = true → rSort k i b p = .error e → e ≤ m) ∧ (m = far ∨ ∃ i, c ≤ i ∧ i < c + n ∧ tryI k o i = true ∧ rSort k i b p = .error m)
  | 0, c, far, h => ⟨far, rfl, Nat.le_refl _, fun i e h1 h2 => by omega, .inl rfl⟩
  | n + 1, c, far, h => by
    have hrec : ∀ far, ∃ m, rlGo k o b p n (c + 1) far = .error m ∧ far ≤ m ∧ (∀ i e, c + 1 ≤ i → i < c + 1 + n → tryI k o i = true → rSort k i b p = .error e → e ≤ m) ∧ (m = far ∨ ∃ i, c + 1 ≤ i ∧ i < c + 1 + n ∧ tryI k o i = true ∧ rSort k i b p = .error m) :=
      fun far => rl_err fun i h1 h2 => h i (by omega) (by omega)
    rw [rlGo]
    cases ht : tryI k o c with
    | true =>
      obtain ⟨e, he⟩ := h c (Nat.le_refl _) (by omega) ht
      rw [if_pos ht, he]
      obtain ⟨m, h1, h2, h3, h4⟩ := hrec (max far e)
      refine ⟨m, h1, by omega, fun i e' a1 a2 a3 a4 => ?_, ?_⟩
      · by_cases hi : i = c
        · subst hi
          rw [he] at a4
          cases a4
          omega
        · exact h3 i e' (by omega) (by omega) a3 a4
      · rcases h4 with h4 | ⟨i, a1, a2, a3, a4⟩
        · by_cases hm : e ≤ far
          · exact .inl (by omega)
          · have : m = e := by omega
            subst this
            exact .inr ⟨c, Nat.le_refl _, by omega, ht, he⟩
        · exact .inr ⟨i, by omega, by omega, a3, a4⟩
    | false =>
      rw [if_neg (by rw [show (decide (o ≤ c) || mayRep k c) = tryI k o c from rfl, ht]; exact Bool.false_ne_true)]
      obtain ⟨m, h1, h2, h3, h4⟩ := hrec far
      refine ⟨m, h1, h2, fun i e' a1 a2 a3 a4 => ?_, ?_⟩
      · by_cases hi : i = c
        · subst hi
          rw [ht] at a3
          cases a3
        · exact h3 i e' (by omega) (by omega) a3 a4
      · rcases h4 with h4 | ⟨i, a1, a2, a3, a4⟩
        · exact .inl h4
        · exact .inr ⟨i, by omega, by omega, a3, a4⟩
/-- one of the sorts stands there, no other -/
theorem rl_ok {i0 : Nat} {x : CL × Nat} (hx : rSort k i0 b p = .ok x) (ht0 : tryI k o i0 = true) : ∀ {n c far : Nat}, c ≤ i0 → i0 < c + n → (∀ i, c ≤ i → i < i0 → tryI k o i = true → ∃ e, rSort k i b p = .error e) → rlGo k o b p n c far = .ok (up1 x.1, i0, x.2)
  | 0, c, far, h1, h2, _ => by omega
  | n + 1, c, far, h1, h2, h => by
    rw [rlGo]
    by_cases hc : c = i0
    · subst hc
      rw [if_pos ht0, hx]
    · cases ht : tryI k o c with
      | true =>
        obtain ⟨e, he⟩ := h c (Nat.le_refl _) (by omega) ht
        rw [if_pos ht, he]
        exact rl_ok hx ht0 (by omega) (by omega) fun i a1 a2 => h i (by omega) a2
      | false =>
        rw [if_neg (by rw [show (decide (o ≤ c) || mayRep k c) = tryI k o c from rfl, ht]; exact Bool.false_ne_true)]
        exact rl_ok hx ht0 (by omega) (by omega) fun i a1 a2 => h i (by omega) a2
end
theorem common_less : ∀ {w v r : Bytes}, common w v < v.length → common w v < w.length → common w (v ++ r) = common w v ∧ w.isPrefixOf (v ++ r) = false
  | [], v, r, _, h => by cases h
  | x :: w, [], r, h, _ => by cases h
  | x :: w, y :: v, r, h1, h2 => by
    show common (x :: w) (y :: (v ++ r)) = _ ∧ (x :: w).isPrefixOf (y :: (v ++ r)) = false
    rw [common_cons, common_cons, pre_cons]
    rw [common_cons] at h1 h2
    by_cases e : x = y
    · rw [if_pos e] at h1 h2
      obtain ⟨a1, a2⟩ := common_less (w := w) (v := v) (r := r) (by simpa using h1) (by simpa using h2)
      rw [if_pos e, if_pos e, a1, a2]
      simp
    · rw [if_neg e, if_neg e]
      simp [e]
/-- the words part from one another -/
theorem fw_part : ∀ i, i < 13 → ∀ j, j < 13 → i ≠ j → common (fw j) (fw i) < (fw i).length ∧ common (fw j) (fw i) < (fw j).length := by decide +kernel
theorem pre_split : ∀ {w r : Bytes}, w.isPrefixOf r = true → r = w ++ r.drop w.length
  | [], _, _ => rfl
  | x :: w, [], h => by cases h
  | x :: w, y :: r, h => by
    rw [pre_cons, Bool.and_eq_true, beq_iff_eq] at h
    show y :: r = x :: (w ++ r.drop w.length)
    rw [← pre_split h.2, h.1]
/-- where one word stands no other does -/
theorem fw_other {i j : Nat} {r : Bytes} (hi : i < 13) (hj : j < 13) (hij : i ≠ j) (h : (fw i).isPrefixOf r = true) : (fw j).isPrefixOf r = false ∧ common (fw j) r < (fw i).length := by
  obtain ⟨h1, h2⟩ := fw_part i hi j hj hij
  have := common_less (r := r.drop (fw i).length) h1 h2
  rw [← pre_split h] at this
  exact ⟨this.2, by omega⟩
section
variable {o : Nat} {c : CL} {k : Checks} {b : Bytes} {q : Nat}
theorem tail_all {i : Nat} (hs : Sim o c k) (hi : i < 13) (hc : cand o c i = true) : RelR (SimN i) (rTail c i b q) (offR q (restOf k i (b.drop q))) := by
  unfold cand at hc
  rw [Bool.and_eq_true, decide_eq_true_eq, Bool.or_eq_true, decide_eq_true_eq] at hc
  have np : ∀ {P : Prop}, (i ≠ 5 ∧ i ≠ 6 ∧ i ≠ 7 ∧ i ≠ 8 ∧ i ≠ 12) → o ≤ i := fun {P} h => hc.2.elim id fun z => by
    rw [may_plain h] at z
    cases z
  have h : i = 0 ∨ i = 1 ∨ i = 2 ∨ i = 3 ∨ i = 4 ∨ i = 5 ∨ i = 6 ∨ i = 7 ∨ i = 8 ∨ i = 9 ∨ i = 10 ∨ i = 11 ∨ i = 12 := by omega
  rcases h with rfl | rfl | rfl | rfl | rfl | rfl | rfl | rfl | rfl | rfl | rfl | rfl | rfl
  · exact tail_flag hs (np (P := True) (by decide)) (by decide)
  · exact tail_flag hs (np (P := True) (by decide)) (by decide)
  · exact tail_flag hs (np (P := True) (by decide)) (by decide)
  · exact tail_marks hs (np (P := True) (by decide))
  · exact tail_flag hs (np (P := True) (by decide)) (by decide)
  · refine tail_5 hs hc.1 ?_
    rcases hc.2 with z | z
    · rw [(hs.new 5 z).2.2.1 rfl]
      decide
    · have z : (decide (c.nob.length < 64) && someSign (afterAll c.nob) 12351 []) = true := z
      rw [Bool.and_eq_true, decide_eq_true_eq] at z
      exact z.1
  · exact tail_6 hs hc.1
  · exact tail_7 hs hc.1
  · refine tail_8 hs hc.1 ?_
    rcases hc.2 with z | z
    · rw [((hs.new 8 z).2.2.2.2.2.1 rfl).1]
      decide
    · have z : (decide (c.pairs.length < 64) && someSign (afterAll (c.pairs.map Prod.fst)) 12351 c.bra) = true := z
      rw [Bool.and_eq_true, decide_eq_true_eq] at z
      exact z.1
  · exact tail_flag hs (np (P := True) (by decide)) (by decide)
  · exact tail_10 hs (np (P := True) (by decide))
  · exact tail_11 hs (np (P := True) (by decide))
  · exact tail_12 hs hc.1
theorem offR_err {α : Type} {q e : Nat} {x : R (α × Nat)} (h : offR q x = .error e) : q ≤ e := by
  cases x with
  | ok y => cases h
  | error m =>
    cases h
    exact Nat.le_add_right _ _
/-- what the specification says of a line -/
def sLine (k : Checks) (o : Nat) (b : Bytes) (p : Nat) : R (Checks × Nat × Nat) := match pick (wordsFor k o) (b.drop p) with
  | .error j => .error (p + j)
  | .ok w => match restOf k w.1 (b.drop (p + w.2)) with
    | .error j => .error (p + w.2 + j)
    | .ok x => .ok (x.1, w.1, p + w.2 + x.2)
def RelL : R (CL × Nat × Nat) → R (Checks × Nat × Nat) → Prop
  | .ok x, .ok y => Sim (x.2.1 + 1) x.1 y.1 ∧ x.2 = y.2
  | .error a, .error b => a = b
  | _, _ => False
theorem mem_words {x : Bytes × Nat} : x ∈ wordsL o c ↔ ∃ i, i < 13 ∧ cand o c i = true ∧ x = (fw i, i) := by
  unfold wordsL
  rw [List.mem_map]
  constructor
  · rintro ⟨i, hi, rfl⟩
    rw [List.mem_filter, List.mem_range] at hi
    exact ⟨i, hi.1, hi.2, rfl⟩
  · rintro ⟨i, hi, hc, rfl⟩
    exact ⟨i, List.mem_filter.mpr ⟨List.mem_range.mpr hi, hc⟩, rfl⟩
theorem line_rel {p : Nat} (hs : Sim o c k) (ho : o ≤ 13) : RelL (rLine c o b p) (sLine k o b p) := by
  have cnd : ∀ i, o - 1 ≤ i → tryI c o i = cand o c i := fun i h => by
    unfold cand
    rw [decide_eq_true (show o ≤ i + 1 by omega), Bool.true_and]
  have clo : ∀ i, cand o c i = true → o - 1 ≤ i := fun i h => by
    unfold cand at h
    rw [Bool.and_eq_true, decide_eq_true_eq] at h; omega
  unfold sLine
  rw [words_of hs]
  by_cases hex : ∃ i0, i0 < 13 ∧ cand o c i0 = true ∧ (fw i0).isPrefixOf (b.drop p) = true
  · obtain ⟨i0, hi0, hc0, hp0⟩ := hex
    rw [pick_ok (mem_words.mpr ⟨i0, hi0, hc0, rfl⟩) hp0 fun y hy hp => ?_]
    · show RelL (rLine c o b p) (match restOf k i0 (b.drop (p + (fw i0).length)) with
        | .error j => .error (p + (fw i0).length + j)
        | .ok x => .ok (x.1, i0, p + (fw i0).length + x.2))
      have ht := tail_all (b := b) (q := p + (fw i0).length) hs hi0 hc0
      have hsort : rSort c i0 b p = rTail c i0 b (p + (fw i0).length) := by
        rw [rSort_eq hi0]
        unfold rWord
        rw [hp0, if_pos rfl]
        rfl
      have others : ∀ i, i < 13 → i ≠ i0 → ∃ e, rSort c i b p = .error e ∧ e ≤ p + (fw i0).length := fun i hi hne => by
        obtain ⟨h1, h2⟩ := fw_other hi0 hi (fun z => hne z.symm) hp0
        rw [rSort_eq hi]
        unfold rWord
        rw [h1, if_neg Bool.false_ne_true]
        exact ⟨_, rfl, by omega⟩
      have hr0 : o - 1 ≤ i0 := clo i0 hc0
      have ht0 : tryI c o i0 = true := by rw [cnd i0 hr0]; exact hc0
      cases hx : rTail c i0 b (p + (fw i0).length) with
      | ok x =>
        rw [hx] at ht
        have hl : rLine c o b p = .ok (up1 x.1, i0, x.2) := rl_ok (hsort.trans hx) ht0 hr0 (by omega) fun i a1 a2 a3 => by
          obtain ⟨e, he, _⟩ := others i (by omega) (by omega)
          exact ⟨e, he⟩
        rw [hl]
        cases hy : restOf k i0 (b.drop (p + (fw i0).length)) with
        | ok y =>
          rw [hy] at ht
          exact ⟨ht.1, Prod.ext rfl ht.2⟩
        | error j =>
          rw [hy] at ht
          exact ht.elim
      | error e =>
        rw [hx] at ht
        cases hy : restOf k i0 (b.drop (p + (fw i0).length)) with
        | ok y =>
          rw [hy] at ht
          exact ht.elim
        | error j =>
          rw [hy] at ht
          have ht : e = p + (fw i0).length + j := ht
          obtain ⟨m, h1, h2, h3, h4⟩ := rl_err (k := c) (o := o) (b := b) (p := p) (n := 13 - (o - 1)) (c := o - 1) (far := p) fun i a1 a2 a3 => by
            by_cases hi : i = i0
            · rw [hi]
              exact ⟨e, hsort.trans hx⟩
            · obtain ⟨e', he', _⟩ := others i (by omega) hi
              exact ⟨e', he'⟩
          have hm := h3 i0 e hr0 (by omega) ht0 (hsort.trans hx)
          have : m = e := by
            rcases h4 with h4 | ⟨i, a1, a2, a3, a4⟩
            · omega
            · by_cases hi : i = i0
              · rw [hi, hsort, hx] at a4
                cases a4
                rfl
              · obtain ⟨e', he', hle⟩ := others i (by omega) hi
                rw [he'] at a4
                cases a4
                omega
          subst this
          have h1 : rLine c o b p = .error m := h1
          rw [h1]
          exact ht
    · obtain ⟨i, hi, hc, rfl⟩ := mem_words.mp hy
      by_cases e : i = i0
      · rw [e]
      · have := (fw_other hi0 hi (fun z => e z.symm) hp0).1
        rw [this] at hp
        cases hp
  · have none_ : ∀ i, i < 13 → cand o c i = true → (fw i).isPrefixOf (b.drop p) = false := fun i hi hc => by
      cases h : (fw i).isPrefixOf (b.drop p) with
      | false => rfl
      | true => exact absurd ⟨i, hi, hc, h⟩ hex
    have errs : ∀ i, i < 13 → cand o c i = true → rSort c i b p = .error (p + common (fw i) (b.drop p)) := fun i hi hc => by
      rw [rSort_eq hi]
      unfold rWord
      rw [none_ i hi hc, if_neg Bool.false_ne_true]
      rfl
    obtain ⟨m, h1, h2, h3, h4⟩ := rl_err (k := c) (o := o) (b := b) (p := p) (n := 13 - (o - 1)) (c := o - 1) (far := p) fun i a1 a2 a3 => ⟨_, errs i (by omega) (by rw [← cnd i a1]; exact a3)⟩
    have h1 : rLine c o b p = .error m := h1
    have hp : pick (wordsL o c) (b.drop p) = .error (m - p) := by
      refine pick_err (fun y hy => ?_) ?_
      · obtain ⟨i, hi, hc, rfl⟩ := mem_words.mp hy
        have := h3 i _ (clo i hc) (by omega) (by rw [cnd i (clo i hc)]; exact hc) (errs i hi hc)
        exact ⟨none_ i hi hc, by show common (fw i) (b.drop p) ≤ m - p; omega⟩
      · rcases h4 with h4 | ⟨i, a1, a2, a3, a4⟩
        · exact .inl (by omega)
        · have hc : cand o c i = true := by rw [← cnd i a1]; exact a3
          rw [errs i (by omega) hc] at a4
          have a4 : p + common (fw i) (b.drop p) = m := Except.error.inj a4
          exact .inr ⟨_, mem_words.mpr ⟨i, by omega, hc, rfl⟩, by show common (fw i) (b.drop p) = m - p; omega⟩
    rw [h1, hp]
    show m = p + (m - p)
    omega
end
/-! ### plain: the list -/
theorem sim0 : Sim 0 CL0 none_ := ⟨rfl, rfl, rfl, rfl, rfl, trivial, rfl, rfl, rfl, rfl, rfl, rfl, rfl, fun _ => rfl, rfl, rfl, rfl, rfl, fun x h => by simp [CL0] at h, fun x h => by simp [CL0] at h, fun x h => by simp [CL0] at h, fun x h => by simp [CL0] at h, by decide, by decide, by decide,
  fun i _ => ⟨rfl, fun _ => rfl, fun _ => rfl, fun _ => rfl, fun _ => rfl, fun _ => ⟨rfl, rfl⟩, fun _ => rfl, fun _ => rfl, fun _ => rfl⟩⟩
/-- a list read as the program reads it and as the specification does -/
inductive RelC : R CL → R Checks → Prop
  | ok {o : Nat} {c : CL} {k : Checks} (h : Sim o c k) : RelC (.ok c) (.ok k)
  | error (e : Nat) : RelC (.error e) (.error e)
theorem listFrom_cons {f p : Nat} {k : Checks} {o : Nat} {t : UInt8} {r : Bytes} {b : Bytes} (hb : b.drop p = t :: r) : listFrom (f + 1) p k o (t :: r) = (sLine k o b p).bind fun x => listFrom f x.2.2 x.1 (x.2.1 + 1) (b.drop x.2.2) := by
  rw [listFrom, sLine, ← hb]
  cases pick (wordsFor k o) (b.drop p) with
  | error j => rfl
  | ok w =>
    dsimp only
    rw [List.drop_drop]
    cases restOf k w.1 (b.drop (p + w.2)) with
    | error j => rfl
    | ok x =>
      show listFrom f (p + w.2 + x.2) x.1 (w.1 + 1) ((b.drop p).drop (w.2 + x.2)) = listFrom f (p + w.2 + x.2) x.1 (w.1 + 1) (b.drop (p + w.2 + x.2))
      rw [List.drop_drop, Nat.add_assoc]
theorem list_rel {b : Bytes} : ∀ {n o p : Nat} {c : CL} {k : Checks}, Sim o c k → (c.sz < 50000 → Bd c) → c.sz ≤ 3 * p → o ≤ 13 → b.length ≤ 16384 → b.length ≤ p + n → RelC (rcl b n c o p) (listFrom n p k o (b.drop p))
  | 0, o, p, c, k, hs, hB, hz, ho, hb, hn => by
    rw [List.drop_eq_nil_of_le (by omega)]
    exact .ok hs
  | n + 1, o, p, c, k, hs, hB, hz, ho, hb, hn => by
    rw [rcl]
    by_cases hp : p < b.length
    · rw [if_pos hp]
      obtain ⟨t, ht⟩ := lt_some hp
      have hd := drop_at ht
      rw [hd, listFrom_cons hd]
      have hl := line_rel (b := b) (p := p) hs ho
      cases hx : rLine c o b p with
      | error e =>
        rw [hx] at hl
        cases hy : sLine k o b p with
        | error e' =>
          rw [hy] at hl
          cases hl
          exact .error e
        | ok y =>
          rw [hy] at hl
          exact hl.elim
      | ok x =>
        rw [hx] at hl
        cases hy : sLine k o b p with
        | error e' =>
          rw [hy] at hl
          exact hl.elim
        | ok y =>
          rw [hy] at hl
          obtain ⟨h1, h2⟩ := hl
          obtain ⟨r1, r2⟩ := rLine_ok (hB (by omega)) ho hx
          have q1 := r2.lt
          have q2 := r2.sz
          dsimp only at q1 q2
          show RelC (rcl b n x.1 (x.2.1 + 1) x.2.2) (listFrom n y.2.2 y.1 (y.2.1 + 1) (b.drop y.2.2))
          rw [← h2]
          exact list_rel h1 r2.bd (by omega) (by omega) hb (by omega)
    · rw [if_neg hp, List.drop_eq_nil_of_le (by omega)]
      exact .ok hs
theorem list_same {b : Bytes} (hb : b.length ≤ 16384) : RelC (rList b) (listRead b) :=
  list_rel sim0 (fun _ => ⟨by simp [CL0], by simp [CL0], by simp [CL0], by simp [CL0], by simp [CL0], by simp [CL0], by decide⟩) (by decide) (by decide) hb (by omega)
end Tc
namespace Tc
open Fh FhCheck
/-! ### plain: figures are the specification's numbers -/
/-- no character is nought -/
def NoNull (r : Fh.Row) : Prop := ∀ (p c : Nat), r[p]? = some (Fh.Piece.char c) → c ≠ 0
theorem markAt_zero {r : Row} (h : NoNull r) (p : Nat) : markAt (r.map pcOf) p 0 = false := by
  cases z : markAt (r.map pcOf) p 0 with
  | false => rfl
  | true => exact absurd rfl (h p 0 (pc_char.mp (of_decide_eq_true z)))
theorem grpEnd_zero {r : Row} (h : NoNull r) : ∀ n p, grpEnd (r.map pcOf) 0 n p = p
  | 0, p => rfl
  | n + 1, p => by
    rw [grpEnd, if_neg]
    rintro ⟨z, _⟩
    rw [markAt_zero h] at z
    cases z
theorem takeWhile_digit {a : Nat} : ∀ {l : List Nat}, a ∈ l.takeWhile digit → digit a = true
  | [], h => by cases h
  | c :: l, h => by
    by_cases hc : digit c = true
    · rw [List.takeWhile_cons_of_pos hc] at h; rcases List.mem_cons.mp h with rfl | h
      · exact hc
      · exact takeWhile_digit h
    · rw [List.takeWhile_cons_of_neg hc] at h
      cases h
theorem all_digits (l : List Nat) : (l.take (l.takeWhile digit).length).filter digit = l.takeWhile digit := by
  have e : l.take (l.takeWhile digit).length = l.takeWhile digit := List.prefix_iff_eq_take.mp (List.takeWhile_prefix digit) |>.symm
  rw [e, List.filter_eq_self]
  intro a ha
  exact takeWhile_digit ha
theorem take_filter (l : List Nat) (a b : Nat) : (l.take (a + b)).filter digit = (l.take a).filter digit ++ ((l.drop a).take b).filter digit := by
  rw [List.take_add, List.filter_append]
/-- the marks of one row -/
structure MkOk (d g : Nat) : Prop where
  hd : digit d = false
  hg : digit g = false
  ne : d ≠ 0 → d ≠ g
/-- the whole part that is longest -/
def wholeOf (g : Nat) (l : List Nat) : List Nat × List Nat := if g = 0 ∨ 3 < (l.takeWhile digit).length then (l.takeWhile digit, l.drop (l.takeWhile digit).length) else greedy g l.length (l.takeWhile digit) (l.drop (l.takeWhile digit).length)
theorem longest_of {d g : Nat} (hk : MkOk d g) (l : List Nat) : longest (numbersAt (optN d) (optN g) l) = some (fracOf (optN d) (wholeOf g l)) := by
  have hm : ∀ p, optN d = some p → digit p = false ∧ p ≠ g := by
    intro p hp
    unfold optN at hp
    split at hp
    · cases hp
    · rename_i h
      cases hp
      exact ⟨hk.hd, hk.ne h⟩
  rw [numbersAt_eq]
  have hs := drop_take_digits l
  have one : longest ((([(l.takeWhile digit, l.drop (l.takeWhile digit).length)]).flatMap (candsOf (optN d))).filter okC) = some (fracOf (optN d) (l.takeWhile digit, l.drop (l.takeWhile digit).length)) := by
    rw [List.flatMap_cons, List.flatMap_nil, List.append_nil]
    exact cand_ok hs
  unfold wholeOf wholes
  dsimp only
  by_cases hg : g = 0
  · rw [if_pos (.inl hg), show optN g = none from if_pos hg]
    exact one
  · rw [show optN g = some g from if_neg hg]
    dsimp only
    by_cases h3 : 3 < (l.takeWhile digit).length
    · rw [if_neg (show ¬ (l.takeWhile digit).length ≤ 3 by omega), if_pos (show g = 0 ∨ 3 < (l.takeWhile digit).length from .inr h3)]
      exact one
    · rw [if_pos (show (l.takeWhile digit).length ≤ 3 by omega), if_neg (show ¬ (g = 0 ∨ 3 < (l.takeWhile digit).length) by omega)]
      exact groups_longest hm hk.hg hs
/-- the whole part in the row -/
theorem whole_on {r : Row} {g p : Nat} (hr : NoNull r) (hg : digit g = false) : p ≤ wholeEnd (r.map pcOf) p g ∧ wholeEnd (r.map pcOf) p g - p ≤ (on r p).length ∧ on r (wholeEnd (r.map pcOf) p g) = (wholeOf g (on r p)).2 ∧
    (wholeOf g (on r p)).1 = ((on r p).take (wholeEnd (r.map pcOf) p g - p)).filter digit := by
  have e1 := digitsEnd_on r p
  have hle : ((on r p).takeWhile digit).length ≤ (on r p).length := (List.takeWhile_sublist digit).length_le
  have ed : on r (digitsEnd (r.map pcOf) p) = (on r p).drop ((on r p).takeWhile digit).length := by rw [e1, on_drop hle]
  have plain : wholeEnd (r.map pcOf) p g = digitsEnd (r.map pcOf) p → wholeOf g (on r p) = ((on r p).takeWhile digit, (on r p).drop ((on r p).takeWhile digit).length) → p ≤ wholeEnd (r.map pcOf) p g ∧ wholeEnd (r.map pcOf) p g - p ≤ (on r p).length ∧ on r (wholeEnd (r.map pcOf) p g) = (wholeOf g (on r p)).2 ∧
    (wholeOf g (on r p)).1 = ((on r p).take (wholeEnd (r.map pcOf) p g - p)).filter digit := by
    intro a b
    rw [a, b, ed, e1]
    refine ⟨by omega, by omega, rfl, ?_⟩
    rw [show p + ((on r p).takeWhile digit).length - p = ((on r p).takeWhile digit).length by omega, all_digits]
  unfold wholeEnd at plain ⊢
  by_cases h3 : 3 < digitsEnd (r.map pcOf) p - p
  · refine plain (if_pos h3) (if_pos (.inr (by omega)))
  · rw [if_neg h3] at plain ⊢
    by_cases h0 : g = 0
    · subst h0
      exact plain (grpEnd_zero hr _ _) (if_pos (.inl rfl))
    · unfold wholeOf
      rw [if_neg (by omega)]
      obtain ⟨i1, i2, i3, i4⟩ := grp_greedy (r := r) (g := g) hg (n := (r.map pcOf).length) (f := (on r p).length) (e := digitsEnd (r.map pcOf) p) (d := (on r p).takeWhile digit) (by rw [List.length_map]; omega) (by rw [ed, List.length_drop]; omega)
      rw [ed] at i1 i3 i4
      rw [List.length_drop] at i3
      refine ⟨by omega, by omega, i1, ?_⟩
      rw [i4, show grpEnd (r.map pcOf) g (r.map pcOf).length (digitsEnd (r.map pcOf) p) - p = ((on r p).takeWhile digit).length + (grpEnd (r.map pcOf) g (r.map pcOf).length (digitsEnd (r.map pcOf) p) - digitsEnd (r.map pcOf) p) by omega, take_filter, all_digits]
/-- the fraction in the row -/
theorem frac_on {r : Row} {d W : Nat} {a : List Nat} (hr : NoNull r) (hd : digit d = false) : W ≤ fracEnd (r.map pcOf) W d ∧ fracEnd (r.map pcOf) W d - W ≤ (on r W).length ∧
    fracOf (optN d) (a, on r W) = (a, ((on r W).take (fracEnd (r.map pcOf) W d - W)).filter digit, on r (fracEnd (r.map pcOf) W d)) := by
  have none_ : fracEnd (r.map pcOf) W d = W → fracOf (optN d) (a, on r W) = (a, [], on r W) → W ≤ fracEnd (r.map pcOf) W d ∧ fracEnd (r.map pcOf) W d - W ≤ (on r W).length ∧
    fracOf (optN d) (a, on r W) = (a, ((on r W).take (fracEnd (r.map pcOf) W d - W)).filter digit, on r (fracEnd (r.map pcOf) W d)) := by
    intro x y
    rw [x, y]
    refine ⟨Nat.le_refl _, by omega, ?_⟩
    rw [Nat.sub_self]
    rfl
  unfold fracEnd at none_ ⊢
  by_cases h0 : d = 0
  · subst h0
    rw [if_neg (fun z => by rw [markAt_zero hr] at z; exact Bool.false_ne_true z.1)] at none_ ⊢
    exact none_ rfl rfl
  have eo : optN d = some d := if_neg h0
  rw [eo] at none_ ⊢
  have e1 := digitsEnd_on r (W + 1)
  rw [markAt_on] at none_ ⊢
  rcases on_head r W with ⟨c, h, eo⟩ | ⟨eo, h⟩
  · rw [eo] at none_ ⊢
    dsimp only at none_ ⊢
    unfold fracOf at none_ ⊢
    dsimp only at none_ ⊢
    by_cases hc : c = d
    · subst hc
      by_cases hf : (on r (W + 1)).takeWhile digit = []
      · rw [hf] at e1
        have e1 : digitsEnd (r.map pcOf) (W + 1) = W + 1 := e1
        rw [e1] at none_ ⊢
        rw [if_neg (by omega), if_neg (by rintro ⟨_, z⟩; exact z hf)] at none_ ⊢
        exact none_ rfl rfl
      · have hl := List.length_pos_iff.mpr hf
        have hle : ((on r (W + 1)).takeWhile digit).length ≤ (on r (W + 1)).length := (List.takeWhile_sublist digit).length_le
        rw [if_pos (show c = c ∧ (on r (W + 1)).takeWhile digit ≠ [] from ⟨rfl, hf⟩), if_pos (show decide (c = c) = true ∧ W + 1 < digitsEnd (r.map pcOf) (W + 1) from ⟨decide_eq_true rfl, by omega⟩), e1]
        refine ⟨by omega, by rw [List.length_cons]; omega, ?_⟩
        rw [show W + 1 + ((on r (W + 1)).takeWhile digit).length - W = ((on r (W + 1)).takeWhile digit).length + 1 by omega, List.take_succ_cons, List.filter_cons_of_neg (by rw [hd]; exact Bool.false_ne_true), all_digits, on_drop hle]
    · rw [if_neg (by rintro ⟨z, _⟩; exact hc (of_decide_eq_true z)), if_neg (by rintro ⟨z, _⟩; exact hc z)] at none_ ⊢
      exact none_ rfl rfl
  · rw [eo] at none_ ⊢
    rw [if_neg (by rintro ⟨z, _⟩; cases z)] at none_ ⊢
    exact none_ rfl rfl
/-- a value as its text's numbers -/
def valN (v : List Nat × List Nat) : List Nat := (if v.1 = [] then [48] else v.1) ++ if v.2 = [] then [] else 46 :: v.2
theorem valOf_value (w f : List Nat) : valOf w f = valN (value w f) := rfl
def toFg (x : Found) : Fg := (x.from_, x.to, valN x.val)
theorem fig_on {r : Row} {d g p : Nat} (hr : NoNull r) (hk : MkOk d g) : ∃ x, longest (numbersAt (optN d) (optN g) (on r p)) = some x ∧ figAt (r.map pcOf) d g p = (p, p + ((on r p).length - x.2.2.length), valN (value x.1 x.2.1)) := by
  refine ⟨_, longest_of hk _, ?_⟩
  obtain ⟨a1, a2, a3, a4⟩ := whole_on (r := r) (g := g) (p := p) hr hk.hg
  obtain ⟨b1, b2, b3⟩ := frac_on (r := r) (d := d) (W := wholeEnd (r.map pcOf) p g) (a := (wholeOf g (on r p)).1) hr hk.hd
  have e : wholeOf g (on r p) = ((wholeOf g (on r p)).1, on r (wholeEnd (r.map pcOf) p g)) := by rw [a3]
  rw [e, b3]
  have l1 : on r (wholeEnd (r.map pcOf) p g) = (on r p).drop (wholeEnd (r.map pcOf) p g - p) := by
    rw [← on_drop a2]
    congr 1
    omega
  have l2 : on r (fracEnd (r.map pcOf) (wholeEnd (r.map pcOf) p g) d) = (on r (wholeEnd (r.map pcOf) p g)).drop (fracEnd (r.map pcOf) (wholeEnd (r.map pcOf) p g) d - wholeEnd (r.map pcOf) p g) := by
    rw [← on_drop b2]
    congr 1
    omega
  unfold figAt
  rw [digs_on a2, digs_on b2, a4, ← valOf_value]
  dsimp only
  have l3 : (on r (fracEnd (r.map pcOf) (wholeEnd (r.map pcOf) p g) d)).length = (on r p).length - (fracEnd (r.map pcOf) (wholeEnd (r.map pcOf) p g) d - p) := by
    rw [l2, List.length_drop, l1, List.length_drop]
    omega
  have l4 : (on r (wholeEnd (r.map pcOf) p g)).length = (on r p).length - (wholeEnd (r.map pcOf) p g - p) := by
    rw [l1, List.length_drop]
  have l5 : p + ((on r p).length - (on r (fracEnd (r.map pcOf) (wholeEnd (r.map pcOf) p g) d)).length) = fracEnd (r.map pcOf) (wholeEnd (r.map pcOf) p g) d := by
    rw [l3]
    omega
  rw [l5]
theorem figs_on {r : Row} {d g : Nat} (hr : NoNull r) (hk : MkOk d g) : ∀ n p, figGo (r.map pcOf) d g n p = (numbersFrom (optN d) (optN g) n p (r.drop p)).map toFg
  | 0, p => rfl
  | n + 1, p => by
    unfold figGo
    rw [List.length_map]
    by_cases hp : p < r.length
    · rw [if_pos hp, digitsEnd_on]
      have ec : r.drop p = r[p] :: r.drop (p + 1) := List.drop_eq_getElem_cons hp
      have eq1 : numbersFrom (optN d) (optN g) (n + 1) p (r.drop p) = match on r p with
        | [] => numbersFrom (optN d) (optN g) n (p + 1) (r.drop (p + 1))
        | c :: _ => if digit c = false then numbersFrom (optN d) (optN g) n (p + 1) (r.drop (p + 1)) else match longest (numbersAt (optN d) (optN g) (on r p)) with
          | none => numbersFrom (optN d) (optN g) n (p + 1) (r.drop (p + 1))
          | some x => ⟨p, p + ((on r p).length - x.2.2.length), value x.1 x.2.1⟩ :: numbersFrom (optN d) (optN g) n (p + ((on r p).length - x.2.2.length)) (r.drop (p + ((on r p).length - x.2.2.length))) := by
        have e2 : ∀ k, r.drop (p + k) = (r.drop p).drop k := fun k => by rw [List.drop_drop]
        simp only [e2]
        unfold on
        rw [ec]
        rfl
      rw [eq1]
      rcases on_head r p with ⟨c, h, eo⟩ | ⟨eo, h⟩
      · by_cases hc : digit c = true
        · obtain ⟨x, hx, hf⟩ := fig_on (r := r) (p := p) hr hk
          rw [if_neg (by rw [eo, List.takeWhile_cons_of_pos hc, List.length_cons]; omega), hf, figs_on hr hk n, hx]
          rw [eo]
          dsimp only
          rw [if_neg (by rw [hc]; exact Bool.noConfusion)]
          rfl
        · rw [if_pos (by rw [eo, List.takeWhile_cons_of_neg hc]; rfl), figs_on hr hk n, eo]
          dsimp only
          rw [if_pos (by simpa using hc)]
      · rw [if_pos (by rw [eo]; rfl), figs_on hr hk n, eo]
    · rw [if_neg hp, List.drop_eq_nil_of_le (by omega)]
      rfl
theorem figs_same {r : Row} {d g : Nat} (hr : NoNull r) (hk : MkOk d g) : figs (r.map pcOf) d g = (numbersIn (optN d) (optN g) r).map toFg := by
  unfold figs numbersIn
  rw [figs_on hr hk, List.length_map]
  rfl
end Tc
namespace Tc
open Fh FhCheck
/-! ### plain: what is read has no nought; marks are signs -/
theorem nextChar_pos (c : Nat) : 32 ≤ nextChar c := by
  unfold nextChar
  split
  · exact Nat.le_refl _
  · split
    · decide
    · split
      · decide
      · split
        · omega
        · omega
theorem mayBe_pos {n v : Nat} (h : mayBe n n v = true) : v ≠ 0 := by
  rintro rfl
  have h := of_decide_eq_true h
  have z := nextChar_pos (max (0 * 64 ^ (n - n)) (leastOf n))
  rw [Nat.sub_self] at h z
  have h2 := Nat.le_trans z (Nat.le_trans h (Nat.min_le_left _ _))
  simp at h2
theorem goOn_pos {n : Nat} : ∀ {f k v : Nat} {b : Bytes} {x : Nat}, mayBe n k v = true → k ≤ n → n < f + k → goOn f n k v b = .ok x → x ≠ 0
  | 0, k, v, b, x, _, h2, h3, _ => absurd h3 (by omega)
  | f + 1, k, v, b, x, h1, h2, h3, h => by
    unfold goOn at h
    split at h
    · rename_i e
      cases h
      subst e
      exact mayBe_pos h1
    · split at h
      · cases h
      · split at h
        · rename_i z
          exact goOn_pos z.2 (by omega) (by omega) h
        · cases h
theorem lengthBy_le (c : Nat) : lengthBy c ≤ 4 := by
  unfold lengthBy
  repeat' split
  all_goals decide
theorem charHere_pos {b : Bytes} {x : Nat × Nat} (h : charHere b = .ok x) : x.1 ≠ 0 := by
  unfold charHere at h
  split at h
  · cases h
  · rename_i c r
    split at h
    · cases h
    · rename_i z
      have z1 : lengthBy c.toNat ≠ 0 := fun y => z (.inl y)
      have z2 : mayBe (lengthBy c.toNat) 1 (headOf (lengthBy c.toNat) c.toNat) = true := by
        cases y : mayBe (lengthBy c.toNat) 1 (headOf (lengthBy c.toNat) c.toNat) with
        | true => rfl
        | false => exact absurd (.inr y) z
      have z3 := lengthBy_le c.toNat
      split at h
      · rename_i v hv
        cases h
        exact goOn_pos z2 (by omega) (by omega) hv
      · cases h
def okPc : Piece → Prop
  | .char c => c ≠ 0
  | _ => True
theorem tagOf_ok (s : UInt8) (n : Nat) : okPc (tagOf s n) := by
  unfold tagOf
  split
  · trivial
  · split
    · trivial
    · trivial
theorem pieceHere_ok {b : Bytes} {x : Piece × Nat} (h : pieceHere b = .ok x) : okPc x.1 := by
  unfold pieceHere at h
  split at h
  · cases h
  · split at h
    · split at h
      · cases h
      · split at h
        · cases h
          exact show (123 : Nat) ≠ 0 by decide
        · split at h
          · split at h
            · cases h
              exact tagOf_ok _ _
            · cases h
          · cases h
    · split at h
      · rename_i y hy
        cases h
        exact charHere_pos hy
      · cases h
theorem rowFrom_ok : ∀ {f p : Nat} {l r : Row} {b : Bytes}, (∀ x ∈ l, okPc x) → rowFrom f p l b = .ok r → ∀ x ∈ r, okPc x
  | f, p, l, r, [], hl, h => by
    have h : Except.ok (ε := Nat) l.reverse = .ok r := by
      rw [← h]
      cases f <;> rfl
    cases h
    intro x hx
    exact hl x (List.mem_reverse.mp hx)
  | 0, p, l, r, c :: b, hl, h => by cases h
  | f + 1, p, l, r, c :: b, hl, h => by
    unfold rowFrom at h
    split at h
    · rename_i x hx
      refine rowFrom_ok (fun y hy => ?_) h; rcases List.mem_cons.mp hy with rfl | hy
      · exact pieceHere_ok hx
      · exact hl y hy
    · cases h
theorem rowRead_nn {b : Bytes} {r : Row} (h : rowRead b = .ok r) : NoNull r := by
  intro p c hp
  exact rowFrom_ok (fun x hx => by cases hx) h (.char c) (List.mem_of_getElem? hp)
/-! marks -/
structure MPair (a b : Option Nat) : Prop where
  ha : ∀ c, a = some c → c ∈ signs
  hb : ∀ c, b = some c → c ∈ signs
  ne : ∀ c, a = some c → b ≠ some c
def MksOk (k : Checks) : Prop := ∀ m, k.numbers = some m → MPair m.sourceMark m.sourceGroup ∧ MPair m.targetMark m.targetGroup
theorem after_ok {α β : Type} {x : Except Nat (α × Nat)} {b : Bytes} {f : α → Bytes → Except Nat (β × Nat)} {z : β × Nat} (h : after x b f = .ok z) : ∃ y z', x = .ok y ∧ f y.1 (b.drop y.2) = .ok z' ∧ z.1 = z'.1 := by
  unfold after at h
  split at h
  · cases h
  · split at h
    · cases h
    · rename_i z' hz
      cases h
      exact ⟨_, z', rfl, hz, rfl⟩
theorem pick_mem {α : Type} {l : List (Bytes × α)} {b : Bytes} {y : α × Nat} (h : pick l b = .ok y) : ∃ x ∈ l, y.1 = x.2 := by
  unfold pick at h
  split at h
  · rename_i x hx
    cases h
    exact ⟨x, List.mem_of_find?_eq_some hx, rfl⟩
  · cases h
theorem mark_mem {e : UInt8} {ok : Nat → Bool} {b : Bytes} {y : Option Nat × Nat} (h : pick (markThen e ok) b = .ok y) : ∀ c, y.1 = some c → c ∈ signs ∧ ok c = true := by
  intro c hc
  obtain ⟨x, hx, e1⟩ := pick_mem h
  unfold markThen at hx; rcases List.mem_cons.mp hx with rfl | hx
  · rw [e1] at hc
    cases hc
  · obtain ⟨z, hz, rfl⟩ := List.mem_map.mp hx
    obtain ⟨c', hc', ho, rfl⟩ := mem_then.mp hz
    rw [e1] at hc
    cases hc
    exact ⟨hc', ho⟩
theorem rest_marks {k : Checks} {w : Nat} {b : Bytes} {z : Checks × Nat} (hk : MksOk k) (h : restOf k w b = .ok z) : MksOk z.1 := by
  unfold restOf at h
  by_cases c0 : w = 0
  · rw [if_pos c0] at h
    cases h; exact hk
  rw [if_neg c0] at h
  by_cases c1 : w = 1
  · rw [if_pos c1] at h
    cases h; exact hk
  rw [if_neg c1] at h
  by_cases c2 : w = 2
  · rw [if_pos c2] at h
    cases h; exact hk
  rw [if_neg c2] at h
  by_cases c3 : w = 3
  · rw [if_pos c3] at h
    obtain ⟨m, z1, hm, h, e1⟩ := after_ok h
    obtain ⟨g, z2, hg, h, e2⟩ := after_ok h
    obtain ⟨n, z3, hn, h, e3⟩ := after_ok h
    obtain ⟨q, z4, hq, h, e4⟩ := after_ok h
    cases h
    rw [e1, e2, e3, e4]
    intro x hx
    cases hx
    refine ⟨⟨fun c hc => (mark_mem hm c hc).1, fun c hc => (mark_mem hg c hc).1, fun c hc z => ?_⟩, ⟨fun c hc => (mark_mem hn c hc).1, fun c hc => (mark_mem hq c hc).1, fun c hc z => ?_⟩⟩
    · have y := (mark_mem hg c z).2
      have hc : m.1 = some c := hc
      rw [hc] at y
      simp at y
    · have y := (mark_mem hq c z).2
      have hc : n.1 = some c := hc
      rw [hc] at y
      simp at y
  rw [if_neg c3] at h
  by_cases c4 : w = 4
  · rw [if_pos c4] at h
    cases h; exact hk
  rw [if_neg c4] at h
  by_cases c5 : w = 5
  · rw [if_pos c5] at h
    obtain ⟨m, z1, hm, h, e1⟩ := after_ok h
    cases h
    rw [e1]; exact hk
  rw [if_neg c5] at h
  by_cases c6 : w = 6
  · rw [if_pos c6] at h
    obtain ⟨m, z1, hm, h, e1⟩ := after_ok h
    cases h
    rw [e1]; exact hk
  rw [if_neg c6] at h
  by_cases c7 : w = 7
  · rw [if_pos c7] at h
    obtain ⟨m, z1, hm, h, e1⟩ := after_ok h
    obtain ⟨g, z2, hg, h, e2⟩ := after_ok h
    cases h
    rw [e1, e2]; exact hk
  rw [if_neg c7] at h
  by_cases c8 : w = 8
  · rw [if_pos c8] at h
    obtain ⟨m, z1, hm, h, e1⟩ := after_ok h
    obtain ⟨g, z2, hg, h, e2⟩ := after_ok h
    cases h
    rw [e1, e2]; exact hk
  rw [if_neg c8] at h
  by_cases c9 : w = 9
  · rw [if_pos c9] at h
    cases h; exact hk
  rw [if_neg c9] at h
  by_cases c10 : w = 10
  · rw [if_pos c10] at h
    obtain ⟨m, z1, hm, h, e1⟩ := after_ok h
    cases h
    rw [e1]; exact hk
  rw [if_neg c10] at h
  by_cases c11 : w = 11
  · rw [if_pos c11] at h
    obtain ⟨m, z1, hm, h, e1⟩ := after_ok h
    cases h
    rw [e1]; exact hk
  · rw [if_neg c11] at h
    obtain ⟨m, z1, hm, h, e1⟩ := after_ok h
    obtain ⟨g, z2, hg, h, e2⟩ := after_ok h
    cases h
    rw [e1, e2]; exact hk
theorem listFrom_marks : ∀ {f p o : Nat} {k k' : Checks} {b : Bytes}, MksOk k → listFrom f p k o b = .ok k' → MksOk k'
  | f, p, o, k, k', [], hk, h => by
    have h : Except.ok (ε := Nat) k = .ok k' := by
      rw [← h]
      cases f <;> rfl
    cases h
    exact hk
  | 0, p, o, k, k', c :: b, hk, h => by cases h
  | f + 1, p, o, k, k', c :: b, hk, h => by
    unfold listFrom at h
    split at h
    · cases h
    · split at h
      · cases h
      · rename_i x hx
        exact listFrom_marks (rest_marks hk hx) h
theorem listRead_marks {b : Bytes} {k : Checks} (h : listRead b = .ok k) : MksOk k := listFrom_marks (fun m hm => by cases hm) h
theorem sign_no_digit : ∀ c ∈ signs, digit c = false := by decide +kernel
theorem mk_of {a b : Nat} (h : MPair (optN a) (optN b)) : MkOk a b where
  hd := by
    by_cases z : a = 0
    · subst z; rfl
    · exact sign_no_digit a (h.ha a (if_neg z))
  hg := by
    by_cases z : b = 0
    · subst z; rfl
    · exact sign_no_digit b (h.hb b (if_neg z))
  ne := by
    rintro z rfl
    exact h.ne a (if_neg z) (if_neg z)
/-! values are bytes -/
theorem valOf_lt {w f : List Nat} (hw : ∀ c ∈ w, c < 256) (hf : ∀ c ∈ f, c < 256) : ∀ c ∈ valOf w f, c < 256 := by
  intro c hc
  unfold valOf at hc
  have h1 : ∀ c ∈ wholeV w, c < 256 := by
    intro c hc
    unfold wholeV at hc
    split at hc
    · rw [List.mem_singleton.mp hc]; decide
    · exact hw c ((List.dropWhile_sublist isZ).mem hc)
  have h2 : ∀ c ∈ fracV f, c < 256 := by
    intro c hc
    unfold fracV at hc
    exact hf c (List.mem_reverse.mp ((List.dropWhile_sublist isZ).mem (List.mem_reverse.mp hc)))
  rcases List.mem_append.mp hc with z | z
  · exact h1 c z
  · split at z
    · cases z
    · rcases List.mem_cons.mp z with rfl | z
      · decide
      · exact h2 c z
theorem digsOf_lt (l : List Pc) : ∀ c ∈ digsOf l, c < 256 := by
  intro c hc
  obtain ⟨x, hx, rfl⟩ := List.mem_map.mp hc
  have z : digit x.2 = true := (List.mem_filter.mp hx).2
  unfold digit at z
  simp at z
  omega
theorem figGo_lt {l : List Pc} {d g : Nat} : ∀ {n p : Nat} {x : Fg}, x ∈ figGo l d g n p → ∀ c ∈ x.2.2, c < 256
  | 0, p, x, h => by simp [figGo] at h
  | n + 1, p, x, h => by
    unfold figGo at h
    split at h
    · split at h
      · exact figGo_lt h
      · rcases List.mem_cons.mp h with z | z
        · rw [z]
          exact valOf_lt (digsOf_lt _) (digsOf_lt _)
        · exact figGo_lt z
    · simp at h
theorem text_nums {v : List Nat × List Nat} (h : ∀ c ∈ valN v, c < 256) : FgNeutral.sized (valueText v) = ((valN v).length : Int) :: (valN v).map fun (n : Nat) => (n : Int) := by
  have e : valueText v = (valN v).map UInt8.ofNat := by
    unfold valueText valN
    rw [List.map_append]
    congr 1
    · split <;> rfl
    · split <;> rfl
  unfold FgNeutral.sized FgNeutral.byteNums
  rw [e, List.length_map, List.map_map]
  congr 1
  refine List.map_congr_left fun c hc => ?_; have z := h c hc
  show (((UInt8.ofNat c).toNat : Nat) : Int) = (c : Int)
  rw [UInt8.toNat_ofNat', Nat.mod_eq_of_lt (by omega)]
end Tc
namespace Tc
open PySem L2 PySem.Spec PyProof.Rows Fh FhCheck
variable {K : PySem.W.Frag} {mg : Str → Option Value} {base : Heap} {P : Program} {w : World}
/-! read_row alone: not in s04 -/
theorem ok_read_row (T : Txt K mg) : FnOk P w K mg base (L2N.CX P w) 9 (ga K "read_row") (fd K "read_row") ["data"] (spRow K) := by
  refine okN T.d_read_row.fn sc_read_row (fun vs H Q E h => by obtain ⟨_, _, rfl, _⟩ := h; rfl) fun cdv A outer s H vs Q E hcd hr h => ?_
  refine ⟨_, (pss_cons (ps_asg (pe_call (ok_read_pieces T) (hr.mono (by decide)) rfl T.d_read_pieces.g T.d_read_pieces.k T.d_read_pieces.b .nil (L2N.passes_call tkN fun _ _ _ _ z => z) (pa_cons (pv 0) (pa_cons pe_int pa_nil))) (pg_tup rfl (pgs_cons (pg_name (i := 1) sc_read_row.nd rfl (by first | exact Or.inl rfl | exact Or.inr rfl)) (pgs_cons (pg_name (i := 2) sc_read_row.nd rfl (by first | exact Or.inl rfl | exact Or.inr rfl)) pgs_nil)))) (pss_cons (ps_if (pt_cmpR op_lt (pv 2) (pe_callB call_len (by rfl) T.n_len (by decide +kernel) (pa_cons (pv 0) pa_nil)) (nomark _)) (pss_one (L2N.ps_raise rfl tkN (pmk_stuck T.xb T.stuck T.stuckI (by exact Nat.lt_of_le_of_lt (Nat.add_le_add_left (by decide : 10 ≤ 3 * 8 + 5) _) hr.dp) (by exact (pa_cons (pv 2) pa_nil))).pmk)) pss_nil) (pss_one (ps_ret (pv 1))))), ?_⟩
  obtain ⟨a, b, rfl, hS, hK, h⟩ := h
  refine ⟨_, rfl, a, b, 0, rfl, hS, hK, h.step fun x H1 hx hs1 h t r hr1 ht => ?_⟩
  refine ⟨t, _, rfl, SqT.of ht, rfl, _, _, rfl, _, _, rfl, rfl, ?_⟩
  refine ⟨_, rfl, _, rfl, _, _, rfl, len_b (hs1.l hS), _, _, rfl, rfl, _, rfl, ite2 (fun h1 => ?_) fun h1 => ?_⟩
  · have h1 : x.2 < b.length := by
      simp at h1
      omega
    rw [if_pos h1] at h
    exact ⟨_, rfl, _, rfl, fun d hd => h.err.at hd⟩
  · have h1 : ¬ x.2 < b.length := by
      simp at h1
      omega
    rw [if_neg h1] at h
    exact ⟨_, rfl, h.ok r hr1.at⟩
end Tc
namespace Tc
open PySem L2 PySem.Spec PyProof.Rows Fh FhCheck LamX
variable {K : PySem.W.Frag} {mg : Str → Option Value} {base : Heap} {P : Program} {w : World}
def markSel (m : (Nat × Nat) × (Nat × Nat)) (s : Nat) : Nat × Nat := if s = 0 then m.1 else m.2
def figPick (c : CL) (l : List Pc) (s k : Nat) : Option Fg := match c.marks with
  | none => none
  | some m => (figs l (markSel m s).1 (markSel m s).2)[k]?
/-- figure_at -/
def spFigAt (K : PySem.W.Frag) : Sp := fun vs H Q E => ∃ (a : Addr) (pt : Pt) (c : CL) (r : Addr) (l : List Pc) (s k : Nat), vs = [.ref a, .ref r, .int s, .int k] ∧ CLs K H a pt c ∧ RowAt K H r l ∧ l.length ≤ 4096 ∧ s ≤ 1 ∧
  (figPick c l s k = none → Ref K "NoSuchNumber" H E [.int (-2)]) ∧ ∀ x, figPick c l s k = some x → ∀ H' t v, Sm K H H' → H' t = some (.tup [.int (x.1 : Nat), .int (x.2.1 : Nat), .ref v]) → H' v = some (.tup (nv x.2.2)) → Q (.ref t) H'
theorem ok_figure_at (T : Txt K mg) : FnOk P w K mg base (L2.CX P w) 6 (ga K "figure_at") (fd K "figure_at") ["checklist", "row", "side", "k"] (spFigAt K) := by
  refine T.d_figure_at.fn.okX sc_figure_at (fun vs H Q E h => by obtain ⟨_, _, _, _, _, _, _, rfl, _⟩ := h; rfl) fun cdv A outer s H vs Q E hr h => ?_
  refine ⟨_, (pss_cons (ps_if (pt_cmpR op_isN (pe_fld (pv 0) rfl) pe_non (nomark _)) (pss_one (L2.ps_raise rfl tkZ (pmk_of (pmk_neg T.xb T.e_NoSuchNumber T.eI_NoSuchNumber T.ref (by exact Nat.lt_of_le_of_lt (Nat.add_le_add_left (by decide : 10 ≤ 3 * 5 + 5) _) hr.dp)).pmk))) pss_nil) (pss_cons (ps_set (i := 4) sc_figure_at.nd rfl (by first | exact Or.inl rfl | exact Or.inr rfl) (pe_call (ok_find_figures T) (hr.mono (by decide)) rfl T.d_find_figures.g T.d_find_figures.k T.d_find_figures.b .nil pass0 (pa_cons (pv 1) (pa_cons (pe_ix ix_tup (pe_fld (pv 0) rfl) (pv 2) (fun _ _ => rfl)) pa_nil)))) (pss_cons (ps_if (pt_cmpR op_ge (pv 3) (pe_callB call_len (by rfl) T.n_len (by decide +kernel) (pa_cons (pv 4) pa_nil)) (nomark _)) (pss_one (L2.ps_raise rfl tkZ (pmk_of (pmk_neg T.xb T.e_NoSuchNumber T.eI_NoSuchNumber T.ref (by exact Nat.lt_of_le_of_lt (Nat.add_le_add_left (by decide : 10 ≤ 3 * 5 + 5) _) hr.dp)).pmk))) pss_nil) (pss_one (ps_ret (pe_ix ix_list (pv 4) (pv 3) (fun _ _ => rfl))))))), ?_⟩
  obtain ⟨a, pt, c, r, l, s1, k, rfl, hC, hR, hl, hs1, q1, q2⟩ := h
  obtain ⟨dx, mv, hself, hmv⟩ := hC.self
  -- a refusal
  have refuse : figPick c l s1 k = none → ∀ H', Sm K H H' → ∀ L d, H' L = none → H' d = none → L ≠ d → E (.ref (ga K "NoSuchNumber")) (some d) (upd (upd H' L (.lst [.int (-2)])) d (.xd [("answer", .ref L)])) := fun z H' hs L d hL hd hne => by
    refine q1 z _ L d (hs.trans ((Sm.new hL).trans (.new (by rw [upd_ne (Ne.symm hne)]; exact hd)))) ?_ upd_same
    rw [upd_ne hne]
    exact upd_same
  cases hm : c.marks with
  | none =>
    rw [hm] at hmv
    have hmv : mv = .non := hmv
    subst hmv
    refine ⟨_, rfl, _, _, _, _, _, rfl, hself, T.c_CheckList.cl, T.na_CheckList_marks, rfl, rfl, _, rfl, iteT ?_⟩
    exact fun L d hL hd hne => refuse (by rw [figPick, hm]) _ .refl L d hL hd hne
  | some m =>
    rw [hm] at hmv
    obtain ⟨mm, t1, t2, rfl, hmm, hT1, hT2⟩ := hmv
    refine ⟨_, rfl, _, _, _, _, _, rfl, hself, T.c_CheckList.cl, T.na_CheckList_marks, rfl, rfl, _, rfl, iteF ?_⟩
    have sel : ∃ t, atI [V.ref t1, V.ref t2] ((s1 : Nat) : Int) = some (.ref t) ∧ T2 H t (markSel m s1) := by
      by_cases z : s1 = 0
      · subst z
        exact ⟨t1, rfl, hT1⟩
      · have : s1 = 1 := by omega
        subst this
        exact ⟨t2, rfl, hT2⟩
    obtain ⟨t, hat, hT⟩ := sel
    refine ⟨_, rfl, _, rfl, _, _, _, _, _, rfl, hself, T.c_CheckList.cl, T.na_CheckList_marks, rfl, _, rfl, mm, _, _, _, rfl, rfl, SqT.of hmm, hat, r, t, l, (markSel m s1).1, (markSel m s1).2, rfl, hR, hT, hl, fun H1 L hs hF => ?_⟩
    obtain ⟨ts, hts, ht2, ht3⟩ := id hF
    have e1 : figPick c l s1 k = (figs l (markSel m s1).1 (markSel m s1).2)[k]? := by rw [figPick, hm]
    refine ⟨_, rfl, _, rfl, _, _, rfl, len_l (SqL.of hts), _, _, rfl, rfl, _, rfl, ite2 (fun h1 => ?_) fun h1 => ?_⟩
    · refine fun L d hL hd hne => refuse ?_ _ hs L d hL hd hne
      rw [e1, List.getElem?_eq_none]
      simp [ht2] at h1
      omega
    · obtain ⟨x, hx⟩ := lt_some (l := figs l (markSel m s1).1 (markSel m s1).2) (i := k) (by simp [ht2] at h1; omega)
      obtain ⟨u, v, hu, h4, h5⟩ := FL.get hF hts hx
      obtain ⟨y, hy, rfl⟩ := Option.map_eq_some_iff.mp hu
      exact ⟨_, rfl, _, rfl, _, _, _, V.ref y.1, rfl, rfl, SqL.of hts, atI_nat (by rw [List.getElem?_map, hy]; rfl), q2 x (e1.trans hx) _ _ v hs h4 h5⟩
end Tc
namespace Tc
open PySem L2 PySem.Spec PyProof.Rows Fh FhCheck LamX
variable {K : PySem.W.Frag} {mg : Str → Option Value} {base : Heap} {P : Program} {w : World}
theorem held_row (T : Txt K mg) : HeldN P w K mg base 11 (ga K "read_row") (spRow K) := ⟨⟨_, _, (ok_read_row T).mono (by decide), T.d_read_row.k, T.d_read_row.b⟩⟩
def numOf (c : CL) (l : List Pc) (s k : Nat) : List Int := match figPick c l s k with
  | none => [-2]
  | some x => (0 :: (x.1 : Int) :: (x.2.1 : Int) :: (x.2.2.length : Int) :: x.2.2.map fun (n : Nat) => (n : Int))
def rNumber (s k : Nat) (p t : Bytes) : List Int := if 4096 < p.length ∨ 4096 < t.length then [-6] else if 1 < s then [-1] else match rList p with
  | .error e => [-5, 1, (e : Int)]
  | .ok c => match rRow t with
    | .error e => [-5, 2, (e : Int)]
    | .ok l => numOf c l s k
theorem valOf_len (w f : List Nat) : (valOf w f).length ≤ w.length + f.length + 2 := by
  have h1 : (wholeV w).length ≤ w.length + 1 := by
    unfold wholeV
    split
    · simp
    · exact Nat.le_succ_of_le (List.dropWhile_sublist isZ).length_le
  have h2 : (fracV f).length ≤ f.length := by
    unfold fracV
    rw [List.length_reverse]
    have := (List.dropWhile_sublist (l := f.reverse) isZ).length_le
    rw [List.length_reverse] at this
    exact this
  unfold valOf
  rw [List.length_append]
  split
  · simp
    omega
  · rw [List.length_cons]
    omega
theorem fig_len {l : List Pc} {d g : Nat} : ∀ {n p : Nat} {x : Fg}, x ∈ figGo l d g n p → x.2.2.length ≤ l.length + l.length + 2
  | 0, p, x, h => by simp [figGo] at h
  | n + 1, p, x, h => by
    unfold figGo at h
    split at h
    · split at h
      · exact fig_len h
      · rcases List.mem_cons.mp h with z | z
        · rw [z]
          have h1 := valOf_len (digsOf ((l.drop p).take (wholeEnd l p g - p))) (digsOf ((l.drop (wholeEnd l p g)).take (fracEnd l (wholeEnd l p g) d - wholeEnd l p g)))
          have h2 := digsOf_len ((l.drop p).take (wholeEnd l p g - p))
          have h3 := digsOf_len ((l.drop (wholeEnd l p g)).take (fracEnd l (wholeEnd l p g) d - wholeEnd l p g))
          rw [List.length_take, List.length_drop] at h2 h3
          show (valOf _ _).length ≤ _
          omega
        · exact fig_len z
    · simp at h
theorem figPick_len {c : CL} {l : List Pc} {s k : Nat} {x : Fg} (h : figPick c l s k = some x) : x.2.2.length ≤ l.length + l.length + 2 := by
  unfold figPick at h
  split at h
  · cases h
  · exact fig_len (List.mem_of_getElem? h)
def spNumber (K : PySem.W.Frag) : Sp := fun vs H Q E => ∃ (s k : Nat) (da db : Addr) (p t : Bytes), vs = [.int s, .int k, .ref da, .ref db] ∧ SqL K H da (bv p) ∧ SqL K H db (bv t) ∧ Tabs (Tb K) H ∧ TagK K H ∧ ∀ H' L, H' L = some (.lst ((rNumber s k p t).map V.int)) → Q (.ref L) H'
theorem ok_number (T : Txt K mg) (tb : TB K mg base) : FnOk P w K mg base CX0 14 (ga K "number") (fd K "number") ["side", "k", "p", "t"] (spNumber K) := by
  refine T.d_number.fn.ok sc_number (fun vs H Q E h => by obtain ⟨_, _, _, _, _, _, rfl, _⟩ := h; rfl) fun cdv A outer s H vs Q E hr h => ?_
  refine ⟨_, (pss_cons (L2.ps_try_as (i := 9) (tb := fun W => tSeq (tDrop (tCallS (spLong K) (WE W) (tCons (tVar 2) (tCons (tC (.int 4096)) tNil)))) (tSeq (tDrop (tCallS (spLong K) (WE W) (tCons (tVar 3) (tCons (tC (.int 4096)) tNil)))) (tSeq (tIfS (tTest (tOp (rI0 fun i j => .bl (decide (j < i))) (tVar 0) (tC (.int 1)))) (fun _ σ H => tMkN (ga K "WrongSide") 1 σ H fun cls d H' => W cls d σ H') tNext) (tSeq (tAsg (tCallS (spText P w mg base K) (WE W) (tCons (tC (.ref (ga K "read_checklist"))) (tCons (tVar 2) (tCons (tC (.int 1)) tNil)))) (gName 4)) (tSeq (tAsg (tCallS (spText P w mg base K) (WE W) (tCons (tC (.ref (ga K "read_row"))) (tCons (tVar 3) (tCons (tC (.int 2)) tNil)))) (gName 5)) (tAsg (tCallS (spFigAt K) (WE W) (tCons (tVar 4) (tCons (tVar 5) (tCons (tVar 0) (tCons (tVar 1) tNil))))) (gTup K 3 (gCons (gName 6) (gCons (gName 7) (gCons (gName 8) gNil)))))))))) (ts := fun a cls d => tRet (Tl.tXg K a cls d "answer" (tVar 9))) (Wout := fun _ _ _ _ => False) rfl rfl sc_number.nd rfl rfl ⟨rfl, by decide, .inl T.g_Refusal⟩ L2.takes0 (fun W pn xe tk hpo => by exact (pss_cons (ps_expr (pe_callS (ok_refuse_long T) (hr.mono (by decide)) rfl T.d_refuse_long.g T.d_refuse_long.k T.d_refuse_long.b (fun σ => passAt tk σ) (pa_cons (pv 2) (pa_cons (pe_gi rfl T.i_MOST_BYTES) pa_nil)))) (pss_cons (ps_expr (pe_callS (ok_refuse_long T) (hr.mono (by decide)) rfl T.d_refuse_long.g T.d_refuse_long.k T.d_refuse_long.b (fun σ => passAt tk σ) (pa_cons (pv 3) (pa_cons (pe_gi rfl T.i_MOST_BYTES) pa_nil)))) (pss_cons (ps_if (pt_cmpR op_gt (pv 0) pe_int (nomark _)) (pss_one (L2.ps_raise rfl tk (pmk_of (pmk_neg T.xb T.e_WrongSide T.eI_WrongSide T.ref (by exact Nat.lt_of_le_of_lt (Nat.add_le_add_left (by decide : 10 ≤ 3 * 13 + 5) _) hr.dp)).pmk))) pss_nil) (pss_cons (ps_set (i := 4) sc_number.nd rfl (by first | exact Or.inl rfl | exact Or.inr rfl) (pe_callS (ok_read_text T) (hr.mono (by decide)) rfl T.d_read_text.g T.d_read_text.k T.d_read_text.b (fun σ => passAt tk σ) (pa_cons (pe_glob (v := .ref (ga K "read_checklist")) rfl T.d_read_checklist.g rfl) (pa_cons (pv 2) (pa_cons (pe_gi rfl T.i_LIST_TEXT) pa_nil))))) (pss_cons (ps_set (i := 5) sc_number.nd rfl (by first | exact Or.inl rfl | exact Or.inr rfl) (pe_callS (ok_read_text T) (hr.mono (by decide)) rfl T.d_read_text.g T.d_read_text.k T.d_read_text.b (fun σ => passAt tk σ) (pa_cons (pe_glob (v := .ref (ga K "read_row")) rfl T.d_read_row.g rfl) (pa_cons (pv 3) (pa_cons (pe_gi rfl T.i_FIRST_ROW_TEXT) pa_nil))))) (pss_one (ps_asg (pe_callS (ok_figure_at T) (hr.mono (by decide)) rfl T.d_figure_at.g T.d_figure_at.k T.d_figure_at.b (fun σ => passAt tk σ) (pa_cons (pv 4) (pa_cons (pv 5) (pa_cons (pv 0) (pa_cons (pv 1) pa_nil))))) (pg_tup rfl (pgs_cons (pg_name (i := 6) sc_number.nd rfl (by first | exact Or.inl rfl | exact Or.inr rfl)) (pgs_cons (pg_name (i := 7) sc_number.nd rfl (by first | exact Or.inl rfl | exact Or.inr rfl)) (pgs_cons (pg_name (i := 8) sc_number.nd rfl (by first | exact Or.inl rfl | exact Or.inr rfl)) pgs_nil)))))))))))) (fun a oe cls dd pn hz hf => by exact (pss_one (ps_ret (Tl.pe_field List.mem_cons_self hz hf (pv 9)))))) (pss_one (ps_ret (pe_op op_cat (pe_lst (pa_cons pe_int (pa_cons (pv 6) (pa_cons (pv 7) (pa_cons (pe_callB call_len (by rfl) T.n_len (by decide +kernel) (pa_cons (pv 8) pa_nil)) pa_nil))))) (pe_callTy call_list_of (by rfl) T.n_list (by decide +kernel) (pa_cons (pv 8) pa_nil)))))), ?_⟩
  obtain ⟨s1, k, da, db, p, t, rfl, hA, hB, hT, hG, q⟩ := h
  -- a refusal that is caught
  have caught : ∀ {x : Str} {H' : Hp} {dd L : Addr} {l : List V} {D : Ends} {a2 : Addr} {σ : L2.St}, Tl.FldOk K (ga K x) "answer" → H' L = some (.lst l) → H' dd = some (.xd [("answer", .ref L)]) → σ[9]? = some (some (.ref a2)) → D.rt (.ref L) H' → tRet (Tl.tXg K a2 (.ref (ga K x)) (some dd) "answer" (tVar 9)) D σ H' :=
    fun hf hL hd hs r => ⟨_, hs, rfl, _, rfl, hf, _, _, _, rfl, hd, rfl, r⟩
  refine ⟨_, rfl, da, p, 4096, rfl, hA, fun h1 => ?_, fun h1 => ?_⟩
  · refine ⟨_, rfl, db, t, 4096, rfl, hB, fun h2 => ?_, fun h2 => ?_⟩
    · have q : ∀ H' L, H' L = some (.lst ((if 1 < s1 then [-1] else match rList p with
        | .error e => [-5, 1, (e : Int)]
        | .ok c => match rRow t with
          | .error e => [-5, 2, (e : Int)]
          | .ok l => numOf c l s1 k : List Int).map V.int)) → Q (.ref L) H' := fun H' L z => q H' L (by rw [rNumber, if_neg (by omega)]; exact z)
      refine ⟨_, rfl, _, _, rfl, rfl, _, rfl, ite2 (fun h3 => ?_) fun h3 => ?_⟩
      · have h3 : 1 < s1 := by
          simp at h3
          omega
        rw [if_pos h3] at q
        refine fun L d hL hd hne => ⟨true, T.xm_WrongSide_Refusal, fun _ a2 ha2 => ?_, fun z => nomatch z⟩
        exact caught T.fld_WrongSide (by rw [upd_ne hne]; exact upd_same) upd_same rfl (q _ L (by rw [upd_ne hne]; exact upd_same))
      have h3 : ¬ 1 < s1 := by
        simp at h3
        omega
      rw [if_neg h3] at q
      refine ⟨_, rfl, ga K "read_checklist", da, spList K, 1, rfl, held_list T tb, fun E2 hE2 => ⟨da, p, rfl, hA, by omega, hT, ?_⟩⟩
      cases hr2 : rList p with
      | error e =>
        rw [hr2] at q
        intro H' d hs hd
        refine hE2 d e H' hd fun H2 L dd hs2 hL hdd => ⟨true, T.xm_WrongText_Refusal, fun _ a2 ha2 => ?_, fun z => nomatch z⟩
        exact caught T.fld_WrongText hL hdd rfl (q H2 L hL)
      | ok c =>
        rw [hr2] at q
        intro H1 hs1 a pt cl
        refine ⟨_, rfl, ga K "read_row", db, spRow K, 2, rfl, held_row T, fun E2 hE2 => ⟨db, t, rfl, hs1.l hB, hs1.rd hG, ?_⟩⟩
        cases hr3 : rRow t with
        | error e =>
          rw [hr3] at q
          intro H' d hs hd
          refine hE2 d e H' hd fun H2 L dd hs2 hL hdd => ⟨true, T.xm_WrongText_Refusal, fun _ a2 ha2 => ?_, fun z => nomatch z⟩
          exact caught T.fld_WrongText hL hdd rfl (q H2 L hL)
        | ok l =>
          rw [hr3] at q
          have hl := rRow_len hr3
          intro H2 hs2 r row
          refine ⟨_, rfl, _, rfl, _, rfl, _, rfl, a, pt, c, r, l, s1, k, rfl, cl.sm hs2, row, hl, by omega, fun hn => ?_, fun x hx H3 u v hs3 hu hv => ?_⟩
          · intro H3 L dd hs3 hL hdd
            refine ⟨true, T.xm_NoSuchNumber_Refusal, fun _ a2 ha2 => ?_, fun z => nomatch z⟩
            refine caught T.fld_NoSuchNumber hL hdd rfl (q H3 L ?_)
            dsimp only
            rw [numOf, hn]
            exact hL
          · have hv2 := figPick_len hx
            refine ⟨u, _, rfl, SqT.of hu, rfl, _, _, rfl, _, _, rfl, _, _, rfl, rfl, ?_⟩
            refine ⟨_, rfl, _, rfl, _, rfl, _, _, rfl, len_t (SqT.of hv), by show 4 ≤ sizeLine; decide, fun b1 hb1 => ⟨_, rfl, v, _, rfl, .inr (SqT.of ((Sm.new (K := K) hb1).at hv)), fun b2 hb2 => ⟨b1, b2, _, _, rfl, rfl, (Sm.new (K := K) hb2).at upd_same, upd_same, ?_, fun L hL => q _ L (upd_same.trans ?_)⟩⟩⟩
            · rw [nv_len]
              exact Nat.le_of_lt (Nat.lt_of_lt_of_le (show 4 + x.2.2.length < 9000 by omega) (by decide))
            · dsimp only
              rw [numOf, hx, nv_len]
              simp [nv]
    · intro H2 L dd hs2 hL hdd
      refine ⟨true, T.xm_TooMuch_Refusal, fun _ a2 ha2 => ?_, fun z => nomatch z⟩
      refine caught T.fld_TooMuch hL hdd rfl (q H2 L ?_)
      rw [rNumber, if_pos (.inr h2)]
      exact hL
  · intro H2 L dd hs2 hL hdd
    refine ⟨true, T.xm_TooMuch_Refusal, fun _ a2 ha2 => ?_, fun z => nomatch z⟩
    refine caught T.fld_TooMuch hL hdd rfl (q H2 L ?_)
    rw [rNumber, if_pos (.inl h1)]
    exact hL
end Tc
namespace Tc
open Fh FhCheck
/-! ### plain: number answers as the specification says -/
theorem pick_numbers {c : CL} {k : Checks} {r : Row} {s n : Nat} (hs : s ≤ 1) (hm : MkRel c.marks k.numbers) (hk : MksOk k) (hr : NoNull r) : numOf c (r.map pcOf) s n = FgNeutral.numbers (match k.numbers with
    | none => FhChecks.says (-2)
    | some m => match (numbersIn (if s = 0 then m.sourceMark else m.targetMark) (if s = 0 then m.sourceGroup else m.targetGroup) r)[n]? with
      | some x => ⟨0, [x.from_, x.to], some (valueText x.val)⟩
      | none => FhChecks.says (-2)) := by
  unfold numOf figPick
  cases hc : c.marks with
  | none =>
    rw [hc] at hm
    cases hn : k.numbers with
    | none => rfl
    | some m =>
      rw [hn] at hm
      exact False.elim hm
  | some m =>
    rw [hc] at hm
    obtain ⟨⟨a, b⟩, ⟨c1, d⟩⟩ := m
    cases hn : k.numbers with
    | none =>
      rw [hn] at hm
      exact False.elim hm
    | some m =>
      obtain ⟨g1, g2⟩ := hk m hn
      rw [hn] at hm
      have hm : m = ⟨optN a, optN b, optN c1, optN d⟩ := hm
      subst hm
      have key : ∀ x y : Nat, MkOk x y → (match (figs (r.map pcOf) x y)[n]? with
          | none => [-2]
          | some x => (0 :: (x.1 : Int) :: (x.2.1 : Int) :: (x.2.2.length : Int) :: x.2.2.map fun (n : Nat) => (n : Int))) = FgNeutral.numbers (match (numbersIn (optN x) (optN y) r)[n]? with
      | some x => ⟨0, [x.from_, x.to], some (valueText x.val)⟩
      | none => FhChecks.says (-2)) := by
        intro x y hxy
        have e1 := figs_same hr hxy
        have e2 : (figs (r.map pcOf) x y)[n]? = ((numbersIn (optN x) (optN y) r)[n]?).map toFg := by rw [e1, List.getElem?_map]
        rw [e2]
        cases hz : (numbersIn (optN x) (optN y) r)[n]? with
        | none => rfl
        | some f =>
          rw [hz] at e2
          have lt : ∀ c ∈ valN f.val, c < 256 := by
            intro c hc
            exact figGo_lt (show toFg f ∈ figGo (r.map pcOf) x y _ 0 from List.mem_of_getElem? e2) c hc
          show _ = (0 : Int) :: (FgNeutral.ints [f.from_, f.to] ++ FgNeutral.sized (valueText f.val))
          rw [text_nums lt]
          rfl
      have hs : s = 0 ∨ s = 1 := by omega
      rcases hs with rfl | rfl
      · exact key a b (mk_of g1)
      · exact key c1 d (mk_of g2)
theorem number_says {s k : Int} {p t : List Int} : PyYqfhga.number s k p t = rNumber s.toNat k.toNat (FgNeutral.bytesOf p) (FgNeutral.bytesOf t) := by
  show FgNeutral.numbers (FhChecks.answer (.number s.toNat k.toNat (FgNeutral.bytesOf p) (FgNeutral.bytesOf t))) = _
  generalize FgNeutral.bytesOf p = bp
  generalize FgNeutral.bytesOf t = bt
  generalize s.toNat = sn
  generalize k.toNat = kn
  unfold FhChecks.answer rNumber
  show FgNeutral.numbers (if 4096 < bp.length ∨ 4096 < bt.length then _ else _) = _
  by_cases h1 : 4096 < bp.length ∨ 4096 < bt.length
  · rw [if_pos h1, if_pos h1]
    rfl
  rw [if_neg h1, if_neg h1]
  by_cases h2 : 1 < sn
  · rw [if_pos h2, if_pos h2]
    rfl
  rw [if_neg h2, if_neg h2]
  have z := list_same (b := bp) (by omega)
  unfold FhChecks.listGiven
  cases hr : rList bp with
  | error e =>
    rw [hr] at z
    cases hs : listRead bp with
    | error e' =>
      rw [hs] at z
      cases z
      rfl
    | ok k =>
      rw [hs] at z
      cases z
  | ok c =>
    rw [hr] at z
    cases hs : listRead bp with
    | error e' =>
      rw [hs] at z
      cases z
    | ok k =>
      rw [hs] at z
      cases z with
      | ok sm =>
        have y := row_same (b := bt) (by omega)
        dsimp only
        unfold FhChecks.rowGiven
        rw [y]
        cases hq : rowRead bt with
        | error e => rfl
        | ok r =>
          dsimp only
          exact (pick_numbers (s := sn) (n := kn) (by omega) sm.mks (listRead_marks hs) (rowRead_nn hq)).symm
end Tc
namespace Tc
open PySem L2 PySem.Spec PyProof.Rows
open PySem.W (WData OpenSpec Codec)
/-! ### the specification's answer -/
theorem bytes_bv : ∀ {p : List Int}, (∀ z ∈ p, 0 ≤ z ∧ z ≤ 255) → p.map V.int = bv (FgNeutral.bytesOf p)
  | [], _ => rfl
  | z :: r, h => by
    have h1 := h z (List.mem_cons_self ..)
    have h2 := bytes_bv (p := r) fun y hy => h y (List.mem_cons_of_mem _ hy)
    have e : (((UInt8.ofNat z.toNat).toNat : Nat) : Int) = z := by
      rw [UInt8.toNat_ofNat']
      omega
    show V.int z :: r.map V.int = V.int ((UInt8.ofNat z.toNat).toNat : Int) :: bv (FgNeutral.bytesOf r)
    rw [h2, e]
/-! ### the row -/
abbrev RJ : OpenSpec := PySem.Challenge.rw_targetchecks_s03_number
/-- a list of bytes as a row's argument -/
theorem arg_bytes {K : PySem.W.Frag} {H : Hp} {v : V} {p : List Int} {n : Nat} (hx : Dw K H v (.list (p.map WData.int))) (hw : Codec.within (.list 0 n (.int 0 255)) p = true) :
    p.length ≤ n ∧ ∃ da, v = .ref da ∧ SqL K H da (bv (FgNeutral.bytesOf p)) := by
  obtain ⟨h1, h2⟩ := He.ba (show ((decide (0 ≤ p.length) && decide (p.length ≤ n)) && p.all fun z => decide (0 ≤ z) && decide (z ≤ 255)) = true from hw)
  obtain ⟨_, h3⟩ := He.ba h1
  refine ⟨of_decide_eq_true h3, ?_⟩
  cases hx with
  | lst hS hA =>
    rw [ints_dw _ _ hA] at hS
    refine ⟨_, rfl, ?_⟩
    rw [← bytes_bv fun z hz => ?_]
    · exact hS
    · obtain ⟨a, b⟩ := He.ba (List.all_eq_true.mp h2 z hz)
      exact ⟨of_decide_eq_true a, of_decide_eq_true b⟩
theorem arg_nat {K : PySem.W.Frag} {H : Hp} {v : V} {z : Int} (hx : Dw K H v (.int z)) (hw : Codec.within (.int 0 4294967295) z = true) : v = .int (z.toNat : Nat) := by
  obtain ⟨h1, _⟩ := He.ba (show (decide (0 ≤ z) && decide (z ≤ 4294967295)) = true from hw)
  cases hx
  rw [Int.toNat_of_nonneg (of_decide_eq_true h1)]
theorem number_pre (K : PySem.W.Frag) (H : Hp) (xs : List V) (dob : Obj) (a : Codec.denoteAll RJ.args) (hT : H (tabA K (ga K "read_sign")) = some (.tbl #[])) (hD : H (ga K "TAG_KINDS") = some (.frz dob (.dK (dicH tgs)))) (hw : Codec.withinAll RJ.args a = true) (hx : DwAll K H xs (Codec.encAll RJ.args a)) :
    spNumber K xs H (fun v H' => Dw K H' v (RJ.ret.enc (Codec.app RJ.args RJ.f a))) fun _ _ _ => False := by
  obtain ⟨s, k, p, t, u⟩ := a
  have key : ∀ (s k : Int) (p t : List Int), Codec.within (.int 0 4294967295) s = true → Codec.within (.int 0 4294967295) k = true → Codec.within (.list 0 5000 (.int 0 255)) p = true → Codec.within (.list 0 5000 (.int 0 255)) t = true →
      DwAll K H xs [.int s, .int k, .list (p.map WData.int), .list (t.map WData.int)] → spNumber K xs H (fun v H' => Dw K H' v (.list ((PyYqfhga.number s k p t).map WData.int))) fun _ _ _ => False := by
    intro s k p t w1 w2 w3 w4 hx
    cases hx with
    | cons h1 hx =>
      cases hx with
      | cons h2 hx =>
        cases hx with
        | cons h3 hx =>
          cases hx with
          | cons h4 hx =>
            cases hx
            obtain ⟨_, da, rfl, hA⟩ := arg_bytes h3 w3
            obtain ⟨_, db, rfl, hB⟩ := arg_bytes h4 w4
            refine ⟨s.toNat, k.toNat, da, db, _, _, by rw [arg_nat h1 w1, arg_nat h2 w2], hA, hB, fun q hq => ?_, .inr ⟨dob, hD⟩, fun H' L h => ?_⟩
            · rw [List.mem_singleton.mp hq]; exact .nil hT
            · rw [number_says]
              exact .lst (.of h) (dw_ints _)
  obtain ⟨a1, hw⟩ := He.ba (show (Codec.within (.int 0 4294967295) s && (Codec.within (.int 0 4294967295) k && (Codec.within (.list 0 5000 (.int 0 255)) p && (Codec.within (.list 0 5000 (.int 0 255)) t && true)))) = true from hw)
  obtain ⟨a2, hw⟩ := He.ba hw
  obtain ⟨a3, hw⟩ := He.ba hw
  exact key s k p t a1 a2 a3 (He.ba hw).1 hx
/-! ### the head -/
theorem number_at (w : World) (mg : Str → Option Value) (fa' : Addr) (h : Heap) (Y : hk.says w h) (G : h.Ns mainGlobals mg) (hfa : mg "number" = some (.ref fa')) : ∃ K : PySem.W.Frag, K.In h ∧ SpecD RJ w K CX0 14 ["side", "k", "p", "t"] mg fa' h := by
  obtain ⟨K, X, c⟩ := Y
  have T := txt_of X G c
  obtain ⟨t1, t2, t3⟩ := c.tabs ("read_sign", none) (List.mem_singleton.mpr rfl)
  have et := cT_eq (K := K) (x := "read_sign")
  rw [et] at t1 t2 t3
  have e := hfa.symm.trans T.d_number.g
  cases e
  obtain ⟨d1, d2, dob, d3, d4⟩ := c.dic
  refine ⟨K, X, fd K "number", [(cdA K (ga K "read_sign"), tabA K (ga K "read_sign"))], ga K "TAG_KINDS", dob, (43, 1), [(45, 2), (46, 3)], spNumber K, ⟨d3, d4, d2, d1, by decide, by decide⟩, fun p hp => ?_, fun p hp => ?_, fun p hp => ?_, fun s us hl => ?_, fun H xs a hT hD hw _ hx => number_pre K H xs dob a (hT _ (List.mem_singleton.mpr rfl)) hD hw hx, fun base hK hN tb => ok_number T (tb _ (List.mem_singleton.mpr rfl))⟩
  · rw [List.mem_singleton.mp hp]; exact t3
  · rw [List.mem_singleton.mp hp]; exact t2
  · rw [List.mem_singleton.mp hp]; exact PySem.W.codeHd_of_K X t1
  · obtain ⟨g, F⟩ := c.d.def_ 39 (d := f39) rfl
    have z : fd K "number" = g := by
      obtain ⟨oc, od, dV, kV, doc, pm, an, cdv, ct, osl, e, lk, _⟩ := F.ex
      exact fdA_of lk
    rw [z]
    exact F.bindsA (ps := ["side", "k", "p", "t"]) (fun _ _ _ _ _ _ us hl => match us, hl with | [_, _, _, _], _ => rfl) s us hl
end Tc
open PySem PySem.W PySem.Calls PyProof.Rows Tc HandSHeadRun in
theorem number_left : LeftO PG qv Tc.names (fun s => xlAt qv [] s && recOk [] s) hk.obs hk.val 9000 true :=
  left_one (M := 9000) (by kernel_rfl) (by decide) (fun s => by kernel_rfl) (by decide) fun w os => by
    have z := Tc.run w os
    have eo : Tc.ob = fun s => hk.obs s.abs := funext ob_eq
    rw [eo] at z
    simp only [endQ_eq, seenQ_eq]
    exact z
open PySem PySem.W PySem.Calls PyProof.Rows Tc HandSHeadRun in
theorem PySem.Challenge.cw_targetchecks_s03_number_holds : PySem.Challenge.rw_targetchecks_s03_number.Holds := by
  w_on
  refine holds_os (r := PySem.Challenge.rw_targetchecks_s03_number) (q := Tc.qv) (loose := Tc.names) (XP := XL Tc.qv []) (YP := hk.says) (kwd := []) (d := topDef PG 73) number_left hk.of hk.keeps
    (fun s z => xl_of s (Bool.and_eq_true_iff.mp z).1) XL.keeps (by kernel_rfl) (by kernel_rfl) (by kernel_rfl) (fun s z => recFacts_of (Bool.and_eq_true_iff.mp z).2) os_shapes ws_said (by decide +kernel) ws_bare ?hw ?hc
  case hw => exact ⟨[.int 0, .int 0, .list [], .list []], by decide +kernel, by decide +kernel⟩
  case hc =>
    refine walk_specD (CX := fun _ => L2.CX0) (k := 14) (ps := ["side", "k", "p", "t"]) ws_said rfl ⟨rfl, by decide, by decide⟩ (fun w mg fa h Y G hmg => ?_) (fun _ _ _ _ _ z => z)
    refine number_at w mg fa h Y G ?_
    have e : (topDef PG 73).name = ("number" : PySem.Str) := by kernel_rfl
    rw [← e]
    exact hmg
