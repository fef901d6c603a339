import PyProof.Rows.All
import Wide.All
import OpenK.AllK
import Wide.FinOn
import KE.KExcSuper
import HandS.ForMost
import HandS.Exc
import HandS.ExcInit
import HandS.ExcIs
import HandS.Defaults
import KE.KExcIs
import KE.KExcMake
import HandS.IsInst
import PyProof.ReprRoads
import HandS.HeadEnd
import HandS.WideBits
import HandS.Wide
import KE.KStateDown
import HandS.Head0
import HandS.Head1
import HandS.Head2
import HandS.HeadHook1
import HandS.HeadHook2
import PySem.Challenge.RW_callersrights_k01_errors
set_option Elab.async false
set_option linter.all false
set_option maxRecDepth 100000
set_option maxHeartbeats 4000000
/-! ErrA: the package's error classes: the object made by the class's call (by position, by name, without), its field read, isinstance of it. -/
namespace Er
open PySem PySem.W PySem.Calls PyProof.Rows PySem.HandSPX

/-! ### the text of an error's __init__ -/
def iArgs (fld : Str) (p1 p2 p3 : Pos) (k : Nat) : Arguments :=
  { posonlyargs := [], args := [{ arg := "self", annotation := none, pos := p1 }, { arg := fld, annotation := none, pos := p2 }], vararg := none, kwonlyargs := [], kw_defaults := [], kwarg := none, defaults := [.Constant .none k p3] }
def iBody (fld : Str) (q1 q2 q3 q4 q5 q6 r1 r2 r3 r4 : Pos) : List Stmt :=
  [.Expr (.Call (.Attribute (.Call (.Name "super" q1) [] [] q2) "__init__" q3) [.Name fld q4] [] q5) q6,
   .Assign [.Attribute (.Name "self" r1) fld r2] (.Name fld r3) r4]
def iScope (fld : Str) : Scope := { kind := .function, names := [(("self" : Str), .local), (fld, .local), (("__class__" : Str), .free), (("super" : Str), .globalImplicit)], isGenerator := false, isCoroutine := false, more := [] }
/-- the two names of fields -/
def Two (fld : Str) : Prop := fld = ("value" : Str) ∨ fld = ("name" : Str)

/-- what the written part says of an error class at C whose field is fld -/
structure ErrTxt (P : Program) (K : Frag) (C fI : Addr) (fld : Str) : Prop where
  ox : L2.OexC K C
  noN : findIn K (.ref C) fld = some none
  iC : findIn K (.ref C) "__init__" = some (some (.ref fI))
  tI : typeIn K (.ref fI) = some (.type "function")
  sup : ks_superIn K C C "__init__" = some (some (.builtin "ValueError.__init__"))
  sub : mroIn K C (.ref C) = some true
  subVE : subIn K (.ref C) (.type "ValueError") = some true
  opq : nsIn K cStatics "thirdparty.any" = some none
  top : (P.main.scope.names.lookup ("super" : Str)).isSome = false
  fn : ∃ (q : Str) (oc doc pm ct cl ccl tcl : Value) (od an cdd cld tdd : Option Addr) (osl ccs csl tsl : Array (Option Value)) (p1 p2 p3 q1 q2 q3 q4 q5 q6 r1 r2 r3 r4 : Pos) (k : Nat) (T cda cc : Addr) (vs : Array Value) (file : Str) (tf : Tok) (n : Nat),
    K.lookup fI = some ⟨oc, od, .func (ksFn "__init__" q (iArgs fld p1 p2 p3 k) (iBody fld q1 q2 q3 q4 q5 q6 r1 r2 r3 r4) (iScope fld) (.ref T) .none doc pm an (.ref cda) ct cc), osl⟩ ∧
    codeIn K (.ref cda) q = true ∧ Two fld ∧ (q3.endLine == q5.line) = true ∧
    K.lookup cda = some ⟨ccl, cdd, .fields vs, ccs⟩ ∧ vs[2]? = some (.str file tf) ∧ ((P.main.file : Str) == file) = true ∧
    K.lookup cc = some ⟨cl, cld, .cell (some (.ref C)), csl⟩ ∧
    K.lookup T = some ⟨tcl, tdd, .seq #[.none] n, tsl⟩

/-- the ways an error is called: by position, by name, without -/
inductive Given (fld : Str) (v : Value) : List Value → List (Str × Value) → Prop
  | pos : Given fld v [v] []
  | kw : Given fld v [] [(fld, v)]
  | non : v = .none → Given fld v [] []
theorem Given.len {fld : Str} {v : Value} {ps : List Value} {kw : List (Str × Value)} (g : Given fld v ps kw) : ps.length ≤ sizeLine := by
  cases g with
  | pos => rw [sizeLine_eq]; exact (by decide : 1 ≤ 16777216)
  | kw => rw [sizeLine_eq]; exact (by decide : 0 ≤ 16777216)
  | non _ => rw [sizeLine_eq]; exact (by decide : 0 ≤ 16777216)

/-- what is left of a new error at x: its own dict at dx -/
structure Born (h h' : Heap) (x C dx t1 : Addr) (fld : Str) (v : Value) : Prop where
  keep : ∀ b o, b ≠ x → h.get? b = some o → h'.get? b = some o
  obj : h'.get? x = some { cls := .ref C, dict := some dx, data := .fields #[.ref t1, .none, .none, .none, .bool false, .none] }
  dbig : h.objs.size ≤ dx
  dne : dx ≠ x
  ns : h'.Ns1 dx (fun y => if y = fld then some v else none)

section
variable {prog : Program} {w : World} {A : Around} {E : Value → Shared → Prop} {R : Result → Shared → Prop} {s : Shared} {K : Frag} {mg mb : Str → Option Value} {C fI : Addr} {fld : Str}

/-- ValueError.__init__ bound to x, called -/
theorem call_mw {hp : Heap} {g : Array GenState} {d : Drawn} {t : Nat} {os : OsState} {u e t0 : Addr} {rest : List Value} {Q : Value → Shared → Prop} (T : L2.OexC K C) (X : K.In hp)
    (he : hp.get? e = some (excO C t0)) (hu : hp.get? u = some (kxs_mw "ValueError.__init__" e)) (hz : rest.length ≤ sizeLine)
    (hq : ∀ h' t1, (∀ b o, b ≠ e → hp.get? b = some o → h'.get? b = some o) → h'.get? e = some (excO C t1) → Q .none ⟨h', g, d, t, os⟩) :
    wpAny (model prog w) A (call (.ref u) rest) Q E ⟨hp, g, d, t, os⟩ := by
  obtain ⟨nm, q, N, bs, bm, sn, sub, ab, col, dd, k0, k1, k2, k3, k5, hC, hbm⟩ := T.cls
  refine wpAny_call (codeAny_of_tree ?_)
  show wpAny _ A.in1 (callAny (.ref u) ⟨rest, []⟩) _ _ _
  simp only [callAny]
  refine wpAny_bind (wpAny_load hu ?_)
  simp only [kxs_mw, show (Value.type "method-wrapper" == Value.type "method" || Value.type "method-wrapper" == Value.type "builtin_function_or_method" || Value.type "method-wrapper" == Value.type "method-wrapper") = true by decide, if_true]
  refine KFB.if_so (by decide) ?_
  refine wpAny_bind (check_bound_init F.excBase_ValueError.toExcCallFacts (X _ _ hC) he rfl ?_)
  refine wpAny_bind (wpAny_pure (wpAny_pure ?_))
  refine ⟨plainId_quiet F.excBase_ValueError.init.plain _, codeAny_builtin F.excBase_ValueError.initEntry ?_⟩
  exact exc_init_tree (cls := .ref C) (t0 := t0) (dv := none) (c2 := .none) (c3 := .none) (b4 := .bool false) he hz fun h' k1 k2 k3 => hq h' _ k1 k2

theorem bind_err {x : Addr} {v : Value} {ps : List Value} {kw : List (Str × Value)} {q : Str} {p1 p2 p3 : Pos} {k : Nat} {body : List Stmt} {sc : Scope} {Td cc : Addr} {doc pm cdv ct tcl : Value} {an tdd : Option Addr} {n : Nat} {tsl : Array (Option Value)}
    (two : Two fld) (X : K.In s.heap) (hT : K.lookup Td = some ⟨tcl, tdd, .seq #[.none] n, tsl⟩) (G : Given fld v ps kw) :
    BindsTo s (ksFn "__init__" q (iArgs fld p1 p2 p3 k) body sc (.ref Td) .none doc pm an cdv ct cc) ⟨.ref x :: ps, kw⟩ [(("self" : Str), .ref x), (fld, v)] := by
  rcases two with rfl | rfl
  all_goals
    cases G with
    | pos => exact BindsTo.of_defaults rfl (X _ _ hT) rfl rfl rfl
    | kw => exact BindsTo.of_defaults rfl (X _ _ hT) rfl rfl rfl
    | non e => subst e; exact BindsTo.of_defaults rfl (X _ _ hT) rfl rfl rfl

theorem no_cell (two : Two fld) : ∀ x ∈ (iScope fld).names, x.2 ≠ .cell := by
  rcases two with e | e <;> (subst e; decide +kernel)
/-- the call super().__init__(fld), read -/
theorem super_call (two : Two fld) {env : Env} {q1 q2 q3 q4 q5 : Pos} (hl : (q3.endLine == q5.line) = true) :
    eval (.Call (.Attribute (.Call (.Name "super" q1) [] [] q2) "__init__" q3) [.Name fld q4] [] q5) env = (do
      let ov ← attributeBase (.Call (.Name "super" q1) [] [] q2) "__init__" env (eval (.Call (.Name "super" q1) [] [] q2) env)
      standAt q3.atName
      let (f, first) ← holding [ov] (getMethod ov "__init__" (do return (← importBound (.Call (.Name "super" q1) [] [] q2) env).getD true))
      callWith q5 f first (backTo q5 (starEach [.Name fld q4] env)) []) := by
  have hm : methodCallPos true (.Call (.Name "super" q1) [] [] q2) env q3 q5 = pure q5 := by
    unfold methodCallPos
    rw [hl]
    rfl
  show (do
      let ov ← attributeBase (.Call (.Name "super" q1) [] [] q2) "__init__" env (eval (.Call (.Name "super" q1) [] [] q2) env)
      standAt q3.atName
      let (f, first) ← holding [ov] (getMethod ov "__init__" (do return (← importBound (.Call (.Name "super" q1) [] [] q2) env).getD true))
      let callPos ← methodCallPos true (.Call (.Name "super" q1) [] [] q2) env q3 q5
      callWith callPos f first (backTo q5 (starEach [.Name fld q4] env)) []) = _
  rw [hm]
  simp only [pure_bind]

theorem err_init {P : Program} {x t0 : Addr} {v : Value} {ps : List Value} {kw : List (Str × Value)} (T : ErrTxt P K C fI fld) (G : Given fld v ps kw) (X : K.In s.heap) (hns : s.heap.Ns mainGlobals mg) (hms : mg "super" = none) (hbt : s.heap.Ns builtinsNs mb)
    (hbb : mb "super" = some (.type "super")) (hlim : s.heap.NoLimit) (hx : s.heap.get? x = some (excO C t0)) (hnx : K.lookup x = none) (hroom : A.depth < recursionLimit)
    (hq : ∀ h' tk dx t1, Born s.heap h' x C dx t1 fld v → R (.ok (.ret .none)) { s with heap := h', toks := tk }) :
    codeAny (model P w) A (.call (.ref fI) ⟨.ref x :: ps, kw⟩) R s := by
  obtain ⟨q, oc, doc, pm, ct, cl, ccl, tcl, od, an, cdd, cld, tdd, osl, ccs, csl, tsl, p1, p2, p3, q1, q2, q3, q4, q5, q6, r1, r2, r3, r4, k, Td, cda, cc, vs, file, tf, n, ho, hcd, S, hl, hcda, hvs, hfile, hcell, hT⟩ := T.fn
  obtain ⟨nm, qn, N, bs, bm, sn, sub, ab, col, dd, k0, k1, k2, k3, k5, hC, hbm⟩ := T.ox.cls
  have hcl : clsIn K C = some { name := nm, bases := bs, mro := .ref C :: bm, ns := N, qualname := qn, hasDict := true, slotNames := sn, subclasses := sub, abstract := ab, collection := col, hasDel := false } := by unfold clsIn; rw [hC] <;> rfl
  have hb := bind_err (x := x) (q := q) (p1 := p1) (p2 := p2) (p3 := p3) (k := k) (body := iBody fld q1 q2 q3 q4 q5 q6 r1 r2 r3 r4) (sc := iScope fld) (cc := cc) (doc := doc) (pm := pm) (cdv := .ref cda) (ct := ct) (an := an) S X hT G
  have nes : fld ≠ ("self" : Str) := by rcases S with e | e <;> (rw [e]; decide)
  have ndb : (fld == ("__debug__" : Str)) = false := by rcases S with e | e <;> (rw [e]; decide)
  have lS : ([(("self" : Str), Value.ref x), (fld, v)] : List (Str × Value)).reverse.lookup ("self" : Str) = some (.ref x) := by
    rcases S with e | e <;> (rw [e]; rfl)
  have lF : ([(("self" : Str), Value.ref x), (fld, v)] : List (Str × Value)).reverse.lookup fld = some v := by
    rcases S with e | e <;> (rw [e]; rfl)
  have kS : (iScope fld).names.lookup ("self" : Str) = some .local := rfl
  have kF : (iScope fld).names.lookup fld = some .local := by rcases S with e | e <;> (rw [e]; rfl)
  refine ks_codeAny_call_defAt hroom (X _ _ ho) rfl hlim (codeRec_of X hcd) rfl hb (no_cell S) (fun y hy => ?_) (fun h₁ hn k => ?_) rfl rfl rfl
  · rcases List.mem_cons.mp hy with e | hy
    · rw [e]; exact kS
    · rw [List.mem_singleton.mp hy]; exact kF
  have X1 : K.In h₁ := X.keeps k
  have hx1 := k _ _ hx
  show PySem.wpAt _ _ (.func _ (ksEnv q (iScope fld) s.heap.objs.size fI (.ref cda) cc)) (execs (_ :: _) (ksEnv q (iScope fld) s.heap.objs.size fI (.ref cda) cc)) _ _ _
  refine ks_wpAt_execs_cons (ks_wpAt_Expr_any (ks_wpAt_MethodCall ?_ (super_call S hl)))
  refine ks_wpAt_super_base (env := ksEnv q (iScope fld) s.heap.objs.size fI (.ref cda) cc) (by rcases S with e | e <;> (rw [e]; rfl)) (by rcases S with e | e <;> (rw [e]; rfl)) (by decide) rfl (X1 _ _ ho) rfl rfl rfl (X1 _ _ hcda) rfl hvs hfile T.top ?_
  refine ks_loadName_global (env := ksEnv q (iScope fld) s.heap.objs.size fI (.ref cda) cc) rfl (by rcases S with e | e <;> (rw [e]; rfl)) (loadGlobal_builtin (env := ksEnv q (iScope fld) s.heap.objs.size fI (.ref cda) cc) (hns.keeps k) hms (hbt.keeps k) hbb ⟨rfl, ?_⟩)
  refine wpAny_loadName_free rfl (by rcases S with e | e <;> (rw [e]; rfl)) rfl ⟨_, X1 _ _ hcell, rfl⟩ ?_
  refine wpAny_loadName_local rfl (by rcases S with e | e <;> (rw [e]; rfl)) hn lS ?_
  refine ks_wpAny_isType_cls (X1 _ _ hC) rfl ⟨rfl, ?_⟩
  refine ks_wpAny_call_super (X1 _ _ hC) rfl hx1 rfl (fun c e => by cases e) (looks_mroIn X1 T.sub) (fun h2 e2 k2 => ?_)
  have X2 : K.In h2 := X1.keeps k2
  have hx2 := k2 _ _ hx1
  have hI : Looks (model P w) h2 (isInstance (.ref x) (.type "ValueError")) true := (InstAt.type (M := model P w) (⟨hx2, rfl, rfl, trivial⟩ : InstAt h2 x (excO C t0) C none)).andThen (looks_subIn X2 T.subVE)
  have hxC : x ≠ C := fun e => by
    have z := X1 _ _ hC
    rw [← e, hx1] at z
    cases z
  refine kxs_getMethod kxs_ValueError e2 (looks_opaque X2 T.opq) (l₀ := .ref C :: bm) (fun A Q E s k q => wpAny_bind ((looks_clsIn X2 hcl) A _ E s k (wpAny_pure q))) rfl X2 (by have z := T.sup; unfold ks_superIn at z; rw [hcl] at z; exact z) hI hxC (by decide) ?_
  have u3 : ∀ b o, h2.get? b = some o → (h2.push (kxs_mw "ValueError.__init__" x)).get? b = some o := fun b o e => Heap.get?_push_of_some _ e
  have hu3 : (h2.push (kxs_mw "ValueError.__init__" x)).get? h2.objs.size = some (kxs_mw "ValueError.__init__" x) := Heap.get?_push_at rfl rfl
  have hn3 : (h2.push (kxs_mw "ValueError.__init__" x)).Ns s.heap.objs.size fun y => ([(("self" : Str), Value.ref x), (fld, v)] : List (Str × Value)).reverse.lookup y := (hn.keeps k2).keeps u3
  have hx3 := u3 _ _ hx2
  have ldF : ∀ {M : Model} {A : Around} {E : Value → Shared → Prop} {h' : Heap} {g : Array GenState} {d : Drawn} {t : Nat} {os : OsState} {p : Pos} {Q : Value → Shared → Prop},
      h'.Ns s.heap.objs.size (fun y => ([(("self" : Str), Value.ref x), (fld, v)] : List (Str × Value)).reverse.lookup y) → Q v ⟨h', g, d, t, os⟩ → wpAny M A (eval (.Name fld p) (ksEnv q (iScope fld) s.heap.objs.size fI (.ref cda) cc)) Q E ⟨h', g, d, t, os⟩ :=
    fun hn' hq' => wpAny_Name (wpAny_loadName_local rfl (by rcases S with e | e <;> (rw [e]; rfl)) hn' lF hq') ndb
  refine kxs_callWith (i := "ValueError.__init__") (x := x) rfl (evalArgs_plain (Calls.spliced_cons (ldF hn3 (Calls.spliced_nil ⟨hu3, ?_⟩))))
  refine call_mw (e := x) T.ox (X2.keeps u3) hx3 hu3 (by rw [sizeLine_eq]; exact (by decide : 1 ≤ 16777216)) (fun h4 t1 k4 e4 => ?_)
  show PySem.wpAt _ _ _ (execs (_ :: _) _) _ _ _
  have nL : s.heap.objs.size ≠ x := Nat.ne_of_gt (Heap.lt_size hx)
  have X4 : K.In h4 := fun a o e => k4 a o (fun y => by rw [y, hnx] at e; cases e) (X2.keeps u3 a o e)
  have hn4 : h4.Ns s.heap.objs.size fun y => ([(("self" : Str), Value.ref x), (fld, v)] : List (Str × Value)).reverse.lookup y := by
    obtain ⟨oL, es, ep, hL, r⟩ := hn3
    exact ⟨oL, es, ep, k4 _ _ nL hL, r⟩
  refine ks_wpAt_execs_cons (ks_wpAt_Assign_Attr (wpAt_of_wpAny (ldF hn4 ?_)))
  refine wpAny_Name (wpAny_loadName_local rfl (by rcases S with e | e <;> (rw [e]; rfl)) hn4 lS ?_) (by decide)
  refine set_plain X4 (ox := excO C t1) (od := none) ⟨e4, rfl, rfl, trivial⟩ T.ox.sa ?_
  refine exc_osa X4 e4 hcl (show refsVE (.ref C :: bm) = true from hbm) rfl T.noN (fun h5 tk5 dx k5 dn dne hx5 hn5 => ?_)
  show PySem.wpAt _ _ _ (execs [] _) _ _ _
  refine wpAt_of_wpAny (wpAny_execs_nil ?_)
  have old : ∀ b o, b ≠ x → s.heap.get? b = some o → h5.get? b = some o := fun b o hb e => k5 b o hb (k4 b o hb (u3 b o (k2 b o (k b o e))))
  refine hq h5 tk5 dx t1 ⟨old, hx5, ?_, dne, hn5⟩
  have le1 : s.heap.objs.size ≤ h4.objs.size := by
    obtain ⟨oL, es, ep, hL, r⟩ := hn4
    exact Nat.le_of_lt (Heap.lt_size hL)
  exact Nat.le_trans le1 dn
end
end Er
set_option Elab.async false
set_option linter.all false
set_option maxRecDepth 100000
set_option maxHeartbeats 4000000
/-! ErrB: the call of an error class, by position, by name, without. -/
namespace Er
open PySem PySem.W PySem.Calls PyProof.Rows PySem.HandSPX
section
variable {M : Model} {A : Around} {E : Value → Shared → Prop} {h : Heap} {g : Array GenState} {d : Drawn} {t : Nat} {os : OsState}
variable {nm q : Str} {C N : Addr} {bs bm : List Value} {hdct : Bool} {sn : List Str} {sub : List Value} {ab : Bool} {col : Option Bool} {dd : Option Addr} {k0 k1 k2 k3 k5 : Option Value}
theorem has_ve (hbm : refsVE bm = true) (X : String) : bm.contains (.type X) = veTail.contains (.type X) := refsVE_contains X bm hbm
theorem look_new (hbm : refsVE bm = true) {ps : List Value} {kw : List (Str × Value)} {Q : Unit → Shared → Prop}
    (hC : h.get? C = some (excClassObj nm q C N bs bm hdct sn sub ab col dd k0 k1 k2 k3 k5 "ValueError.__new__")) (hq : Q () ⟨h, g, d, t, os⟩) : wpAny M A (checkBuiltinCall "ValueError.__new__" ⟨.ref C :: ps, kw⟩) Q E ⟨h, g, d, t, os⟩ := by
  have hT := has_ve hbm
  have hB : (Value.ref C :: bm).contains (.type "ValueError") = true := by rw [List.contains_cons, hT, F.excBase_ValueError.hasB, Bool.or_true]
  have noS := F.excBase_ValueError.noStar
  simp only [checkBuiltinCall, F.excBase_ValueError.newKind, F.excBase_ValueError.newSplit, F.excBase_ValueError.newRow]
  repeat (first | refine wpAny_loadPart_at hC ?_ | (refine wpAny_isSubtype_exc hC ?_; rw [hB]) | refine wpAny_staticBase_exc hC ?_ | refine wpAny_madeBy_exc hC ?_ | simp only [bne_self_eq_false, Bool.false_eq_true, if_false] | wp_step)
  exact hq
end
section
variable {prog : Program} {w : World} {A : Around} {E : Value → Shared → Prop} {R : Result → Shared → Prop} {h : Heap} {g : Array GenState} {d : Drawn} {t : Nat} {os : OsState}
variable {nm q : Str} {C N : Addr} {bs bm : List Value} {hdct : Bool} {sn : List Str} {sub : List Value} {ab : Bool} {col : Option Bool} {dd : Option Addr} {k0 k1 k2 k3 k5 : Option Value}
theorem lay_new (hbm : refsVE bm = true) {ps : List Value} {kw : List (Str × Value)}
    (hC : h.get? C = some (excClassObj nm q C N bs bm hdct sn sub ab col dd k0 k1 k2 k3 k5 "ValueError.__new__"))
    (hq : R (.ok (.ret (.ref (h.objs.size + 1)))) ⟨(h.push (kdv_tup ps)).push (excO C h.objs.size), g, d, t, os⟩) (hz : ps.length ≤ sizeLine) :
    codeAny (model prog w) A (.builtin "ValueError.__new__" ⟨.ref C :: ps, kw⟩) R ⟨h, g, d, t, os⟩ := by
  have hT := has_ve hbm
  have Fb := F.excBase_ValueError
  have he := Fb.ends
  have hB : (Value.ref C :: bm).contains (.type "ValueError") = true := by rw [List.contains_cons, hT, Fb.hasB, Bool.or_true]
  have hA : (Value.ref C :: bm).contains (.type "AttributeError") = false := by rw [List.contains_cons, hT, Fb.noAttr]; rfl
  have hN : (Value.ref C :: bm).contains (.type "NameError") = false := by rw [List.contains_cons, hT, Fb.noName]; rfl
  refine codeAny_builtinAt Fb.entry ?_
  unfold Builtin.«BaseException.__new__»
  refine PySem.wpAt_bind ?_
  show PySem.wpAt _ _ _ (stack >>= _) _ _ _
  refine PySem.wpAt_bind (PySem.wpAt_stack fun p below => PySem.wpAt_of_wpAny ?_)
  wp_walk
  refine PySem.wpAt_of_wpAny ?_
  rw [Fb.owner]
  repeat (first | with_reducible refine wpAny_madeHere_exc Fb.canon hC ?_ | with_reducible refine wpAny_loadPart_at hC ?_ | (with_reducible refine wpAny_isSubtype_exc hC ?_; first | rw [hB] | rw [hA] | rw [hN]) | wp_step)
  show R _ _
  rw [Heap.size_push]
  exact hq

theorem run_class (hbm : refsVE bm = true) {ps : List Value} {kw : List (Str × Value)} {fI : Addr} {Q : Fin → Shared → Prop}
    (hC : h.get? C = some (excClassObj nm q C N bs bm hdct sn sub ab col dd k0 k1 k2 k3 k5 "ValueError.__new__"))
    (hi : Looks (model prog w) h (typeLookup (.ref C) "__init__") (some (.ref fI))) (hb : ∀ self, Looks (model prog w) h (bindSpecial (.ref fI) self) (.ref fI, [self])) (hz : ps.length ≤ sizeLine)
    (hq : codeAny (model prog w) A (.call (.ref fI) ⟨.ref (h.objs.size + 1) :: ps, kw⟩)
      (fun r s' => match r with | .ok (.ret v) => v = .none ∧ Q (.done (.ret (.ref (h.objs.size + 1)))) s' | .ok _ => False | .error e => E e s')
      ⟨(h.push (kdv_tup ps)).push (excO C h.objs.size), g, d, t, os⟩) :
    wpAny (model prog w) A (Builtin.«type.__call__» ⟨.ref C :: ps, kw⟩) Q E ⟨h, g, d, t, os⟩ := by
  repeat (first | with_reducible refine wpAny_loadPart_at hC ?_ | with_reducible refine wpAny_madeBy_exc hC ?_ | wp_step)
  refine codeAny_call_builtin_code (Code.quiet_builtin _ F.excBase_ValueError.quiet) (look_new hbm hC ?_)
  refine lay_new hbm hC ?_ hz
  show wpAny _ _ _ _ _ _
  have k : ∀ b o, h.get? b = some o → ((h.push (kdv_tup ps)).push (excO C h.objs.size)).get? b = some o := fun b o e => Heap.get?_push_of_some _ (Heap.get?_push_of_some _ e)
  have hC1 := k _ _ hC
  have hx : ((h.push (kdv_tup ps)).push (excO C h.objs.size)).get? (h.objs.size + 1) = some (excO C h.objs.size) := by heap_get
  have hcC : (Value.ref C :: bm).contains (.ref C) = true := by simp
  have i1 := hi.keeps k
  have b1 := (hb (.ref (h.objs.size + 1))).keeps k
  unfold isInstance
  repeat (first | with_reducible refine wpAny_loadPart_at hx ?_ | (with_reducible refine wpAny_isSubtype_exc hC1 ?_; rw [hcC]) | wp_step)
  show wpAny _ _ (typeLookup (.ref C) _) _ _ _
  refine i1.at ?_
  refine wpAny_holding (wpAny_bind (b1.at ?_))
  refine wpAny_bind (wpAny_call (codeAny_mono hq fun r s' z => ?_))
  rcases r with e | (v | _ | _ | _) <;> first | exact z | exact z.elim | skip
  obtain ⟨rfl, z⟩ := z
  first
    | exact wpAny_pure (wpAny_pure z)
    | (wp_walk; exact z)
theorem call_class (hbm : refsVE bm = true) {ps : List Value} {kw : List (Str × Value)} {fI : Addr}
    (hC : h.get? C = some (excClassObj nm q C N bs bm hdct sn sub ab col dd k0 k1 k2 k3 k5 "ValueError.__new__"))
    (hi : Looks (model prog w) h (typeLookup (.ref C) "__init__") (some (.ref fI))) (hb : ∀ self, Looks (model prog w) h (bindSpecial (.ref fI) self) (.ref fI, [self])) (hz : ps.length ≤ sizeLine)
    (hq : codeAny (model prog w) (A.under (.builtin "type.__call__" ⟨.ref C :: ps, kw⟩)) (.call (.ref fI) ⟨.ref (h.objs.size + 1) :: ps, kw⟩) (InitBack (h.objs.size + 1) R)
      ⟨(h.push (kdv_tup ps)).push (excO C h.objs.size), g, d, t, os⟩) :
    codeAny (model prog w) A (.call (.ref C) ⟨ps, kw⟩) R ⟨h, g, d, t, os⟩ := by
  have f1 := tc_lookup
  have f2 := tc_bind (.ref C)
  have hTy : (⟨h, g, d, t, os⟩ : Shared).TypeIs (.ref C) "type" := ⟨_, hC, rfl⟩
  have typ : Looks (model prog w) h (isInstance (.ref C) (.type "type")) true := (((Looks.ld hC).andThen .now : Looks (model prog w) h (typeOf (.ref C)) (.type "type"))).andThen (Looks.of_pure tc_sub)
  refine codeAny_of_tree ?_
  show wpAny _ _ (callAny (.ref C) _) _ _ _
  repeat (any_goals (first | assumption | with_reducible refine wpAny_loadPart_at hC ?_ | wp_step))
  refine ⟨rfl, ?_⟩
  refine codeAny_call_builtin_at (Code.quiet_builtin _ (by decide +kernel)) entry_typeCall (check_slot tc_kind tc_split typ (tc_args _ _ _) (run_class hbm hC hi hb hz ?_))
  refine codeAny_mono hq fun r s' z => ?_
  rcases r with e | (v | _ | _ | _) <;> exact z

/-- an error made: the object at e, its dict at dx, both new -/
structure Made (h h' : Heap) (e C dx : Addr) (fld : Str) (v : Value) : Prop where
  keep : ∀ b o, h.get? b = some o → h'.get? b = some o
  new : h.objs.size ≤ e
  dbig : h.objs.size ≤ dx
  dne : dx ≠ e
  obj : ∃ t1 : Addr, h'.get? e = some { cls := .ref C, dict := some dx, data := .fields #[.ref t1, .none, .none, .none, .bool false, .none] }
  ns : h'.Ns1 dx (fun y => if y = fld then some v else none)
theorem err_made {P : Program} {K : Frag} {mg mb : Str → Option Value} {C fI : Addr} {fld : Str} {v : Value} {ps : List Value} {kw : List (Str × Value)} {s : Shared} (T : ErrTxt P K C fI fld) (G : Given fld v ps kw) (X : K.In s.heap) (hns : s.heap.Ns mainGlobals mg)
    (hms : mg "super" = none) (hbt : s.heap.Ns builtinsNs mb) (hbb : mb "super" = some (.type "super")) (hlim : s.heap.NoLimit) (hroom : A.depth + 1 < recursionLimit)
    (hq : ∀ h' tk e dx, Made s.heap h' e C dx fld v → R (.ok (.ret (.ref e))) { s with heap := h', toks := tk }) :
    codeAny (model P w) A (.call (.ref C) ⟨ps, kw⟩) R s := by
  obtain ⟨nm, qn, N, bs, bm, sn, sub, ab, col, dd, k0, k1, k2, k3, k5, hC, hbm⟩ := T.ox.cls
  obtain ⟨hp, g, dr, tk, os⟩ := s
  have k : ∀ b o, hp.get? b = some o → ((hp.push (kdv_tup ps)).push (excO C hp.objs.size)).get? b = some o := fun b o e => Heap.get?_push_of_some _ (Heap.get?_push_of_some _ e)
  have hx : ((hp.push (kdv_tup ps)).push (excO C hp.objs.size)).get? (hp.objs.size + 1) = some (excO C hp.objs.size) := by heap_get
  have hnx : K.lookup (hp.objs.size + 1) = none := by
    cases e : K.lookup (hp.objs.size + 1) with
    | none => rfl
    | some o =>
      have z : hp.get? (hp.objs.size + 1) = some o := X _ _ e
      exact absurd (Nat.lt_of_succ_lt (Heap.lt_size z)) (Nat.lt_irrefl _)
  refine call_class hbm (X _ _ hC) (looks_findIn X T.iC) (fun self => bind_fn X self T.tI) G.len ?_
  refine err_init (s := ⟨(hp.push (kdv_tup ps)).push (excO C hp.objs.size), g, dr, tk, os⟩) T G (X.keeps k) (hns.keeps k) hms (hbt.keeps k) hbb (hlim.keeps k) hx hnx ?_ fun h' tk' dx t1 B => ?_
  · rw [L2.make_depth]
    exact hroom
  · have old : ∀ b o, hp.get? b = some o → h'.get? b = some o := fun b o e => B.keep b o (Nat.ne_of_lt (Nat.lt_succ_of_lt (Heap.lt_size e))) (k b o e)
    have z : hp.objs.size + 1 + 1 ≤ dx := by
      have y := B.dbig
      rw [Heap.size_push, Heap.size_push] at y
      exact y
    exact ⟨rfl, hq h' tk' (hp.objs.size + 1) dx ⟨old, Nat.le_succ _, Nat.le_trans (Nat.le_trans (Nat.le_succ _) (Nat.le_succ _)) z, B.dne, ⟨t1, B.obj⟩, B.ns⟩⟩
end
end Er
set_option Elab.async false
set_option linter.all false
set_option maxRecDepth 100000
set_option maxHeartbeats 4000000
/-! ErrC: rules: an error made (by position, by name, without), its field read, isinstance of it. -/
namespace Er
open PySem PySem.Spec PyProof.Rows L2
/-- at a stands an error of the class at C whose field fld holds v -/
def ErrAt (H : Hp) (a C : Addr) (fld : Str) (v : V) : Prop := ∃ d, H a = some (exo a C (some d)) ∧ H d = some (exd d [(fld, v)])
theorem ErrAt.same {H H' : Hp} {a C : Addr} {fld : Str} {v : V} (s : Same H H') (e : ErrAt H a C fld v) : ErrAt H' a C fld v := by
  obtain ⟨d, h1, h2⟩ := e
  exact ⟨d, s _ _ h1, s _ _ h2⟩
/-- the abstract heap with a new error -/
abbrev errH (H : Hp) (a d C : Addr) (fld : Str) (v : V) : Hp := upd (upd H d (exd d [(fld, v)])) a (exo a C (some d))
theorem errH_a {H : Hp} {a d C : Addr} {fld : Str} {v : V} : errH H a d C fld v a = some (exo a C (some d)) := upd_same
theorem errH_d {H : Hp} {a d C : Addr} {fld : Str} {v : V} (ne : d ≠ a) : errH H a d C fld v d = some (exd d [(fld, v)]) := (upd_ne ne).trans upd_same
theorem errH_ne {H : Hp} {a d b C : Addr} {fld : Str} {v : V} (h1 : b ≠ a) (h2 : b ≠ d) : errH H a d C fld v b = H b := (upd_ne h1).trans (upd_ne h2)
theorem errH_at {H : Hp} {a d C : Addr} {fld : Str} {v : V} (ne : d ≠ a) : ErrAt (errH H a d C fld v) a C fld v := ⟨d, errH_a, errH_d ne⟩
theorem errH_same {H : Hp} {a d C : Addr} {fld : Str} {v : V} (ha : H a = none) (hd : H d = none) : Same H (errH H a d C fld v) := fun b o e =>
  (errH_ne (ne_of_none e ha) (ne_of_none e hd)).trans e
section
variable {X : Cx} {pins : List (Addr × Obj)} {σ : L2.St} {H : Hp}
theorem inv_made {hp h' : Heap} {g : Array GenState} {dr : Drawn} {tk t' : Nat} {os : OsState} {e C dx : Addr} {fld : Str} {v : V} {u : Value} (I : Inv X pins σ H ⟨hp, g, dr, tk, os⟩) (M : Made hp h' e C dx fld u) (rv : RelV v u) :
    Inv X pins σ (errH H e dx C fld v) ⟨h', g, dr, t', os⟩ := by
  have ha : H e = none := I.hok.fresh M.new
  have hd : H dx = none := I.hok.fresh M.dbig
  have ne : ∀ {b : Addr} {o : Obj}, hp.get? b = some o → b ≠ e ∧ b ≠ dx := fun {b o} q => ⟨Nat.ne_of_lt (Nat.lt_of_lt_of_le (Heap.lt_size q) M.new), Nat.ne_of_lt (Nat.lt_of_lt_of_le (Heap.lt_size q) M.dbig)⟩
  have U : Un X.fs [] H (errH H e dx C fld v) hp h' := {
    keep := fun b o q n _ _ => M.keep b o q
    slot := fun b o q n _ _ => ⟨o.slots, M.keep b o q⟩
    free := fun b o q n _ => (errH_ne (ne q).1 (ne q).2).trans n
    there := fun b o q _ => ⟨o, M.keep b o q⟩
    tups := fun b xs q => errH_same ha hd b _ q
    frzs := fun b o v q => errH_same ha hd b _ q
    tbls := fun b ps q => ⟨#[], by rw [Array.append_empty]; exact errH_same ha hd b _ q⟩ }
  refine I.un (t' := t') U fun b o q => ?_
  by_cases hb : b = e
  · subst hb
    rw [errH_a] at q
    cases q
    obtain ⟨t1, ho⟩ := M.obj
    exact exo_ok ho
  · by_cases hbd : b = dx
    · subst hbd
      rw [errH_d M.dne] at q
      cases q
      exact exd_ok M.ns (relO_put (fs := []) rv fun g => True.intro)
    · rw [errH_ne hb hbd] at q
      exact (I.hok b o q).stay (fun c v _ z => M.keep c v z) (fun c z => errH_same ha hd c _ z) fun c xs z => errH_same ha hd c _ z
/-- the class called -/
theorem run_err {C fI : Addr} {fld : Str} {v : V} {u : Value} {ps : List Value} {kw : List (Str × Value)} {s : Shared} {k : Nat} {Q : VK} (T : ErrTxt X.prog X.K C fI fld) (hms : X.mg "super" = none) (G : Given fld u ps kw) (hr : Room k X.A) (I : Inv X pins σ H s) (rv : RelV v u)
    (h : ∀ a d, H a = none → H d = none → d ≠ a → Q (.ref a) (errH H a d C fld v)) : wpAny (model X.prog X.w) X.A (call (.ref C) ps kw) (EP X pins σ Q) X.xe s := by
  obtain ⟨mb, hb1, hb2⟩ := I.mod.blt
  obtain ⟨hp, g, dr, tk, os⟩ := s
  refine wpAny_call (err_made T G I.kIn (I.mod.glob.keeps I.bk) hms (hb1.keeps I.bk) ((hb2 "super" (by decide)).trans (by decide +kernel)) I.nolimit (by have := hr.dp; omega) fun h' tk' e dx M => ?_)
  exact ⟨.ref e, _, inv_made I M rv, rfl, h e dx (I.hok.fresh M.new) (I.hok.fresh M.dbig) M.dne⟩
/-- X(e) -/
def tErr (C : Addr) (fld : Str) (te : TE) : TE := fun σ H Q => te σ H fun v H1 => ∀ a d, H1 a = none → H1 d = none → d ≠ a → Q (.ref a) (errH H1 a d C fld v)
section
variable {C fI : Addr} {fld x : Str} {e : Expr} {te : TE} {p pos kpos : Pos} {k : Nat}
theorem pe_err (T : ErrTxt X.prog X.K C fI fld) (hms : X.mg "super" = none) (hr : Room k X.A) (gC : X.mg x = some (.ref C)) (hg : Gl X x) (he : PE X e te)
    (hs : starEach [e] X.env = (false, eval e X.env) :: starEach [] X.env := by rfl) (hdb : (x == ("__debug__" : Str)) = false := by decide) (hpl : (backTo pos (starEach [] X.env)).any (·.1) = false := by rfl) : PE X (.Call (.Name x p) [e] [] pos) (tErr C fld te) := by
  refine ⟨fun pins s σ H Q I h => wpAny_Call_Name_kw (ld_glob I hg gC ?_ hdb)⟩
  refine PySem.W.callWith_K (h₀ := X.base) I.ok.mod.kin T.ox.kC ?_ hs hpl
  rw [hs]
  refine Calls.spliced_cons (thn (he.run pins s σ H _ I h) fun u s1 ⟨v, H1, I1, r1, q1⟩ => ?_)
  exact Calls.spliced_nil ⟨I1.kIn, run_err T hms .pos hr I1 r1 q1⟩
theorem pe_err0 (T : ErrTxt X.prog X.K C fI fld) (hms : X.mg "super" = none) (hr : Room k X.A) (gC : X.mg x = some (.ref C)) (hg : Gl X x) (hdb : (x == ("__debug__" : Str)) = false := by decide) :
    PE X (.Call (.Name x p) [] [] pos) (tErr C fld (tC .non)) := by
  refine ⟨fun pins s σ H Q I h => wpAny_Call_Name_kw (ld_glob I hg gC ?_ hdb)⟩
  exact PySem.W.callWith_K0 I.kIn T.ox.kC (run_err (v := .non) (u := .none) T hms (.non rfl) hr I rfl h)
theorem pe_errK (T : ErrTxt X.prog X.K C fI fld) (hms : X.mg "super" = none) (hr : Room k X.A) (gC : X.mg x = some (.ref C)) (hg : Gl X x) (he : PE X e te) (hdb : (x == ("__debug__" : Str)) = false := by decide) :
    PE X (.Call (.Name x p) [] [⟨some fld, e, kpos⟩] pos) (tErr C fld te) := by
  refine ⟨fun pins s σ H Q I h => wpAny_Call_Name_kw (ld_glob I hg gC ?_ hdb)⟩
  refine PySem.W.callWith_KW0 (h₀ := X.base) I.ok.mod.kin T.ox.kC rfl ?_ rfl
  show wpAny _ _ (evalAll [(do let v ← eval e X.env; standAt pos; pure v)]) _ _ s
  refine wpAny_evalAll_cons (wpAny_bind (thn (he.run pins s σ H _ I h) fun u s1 ⟨v, H1, I1, r1, q1⟩ => wpAny_bind (wpAny_standAt (wpAny_pure ?_))))
  exact wpAny_evalAll_nil ⟨I1.kIn, run_err T hms .kw hr I1 r1 q1⟩
/-- X(), X without an __init__ of its own -/
theorem pe_bare (T : OexC X.K C) (hi : PySem.W.findIn X.K (.ref C) "__init__" = some (some (.builtin "ValueError.__init__"))) (gC : X.mg x = some (.ref C)) (hg : Gl X x) (hdb : (x == ("__debug__" : Str)) = false := by decide) :
    PE X (.Call (.Name x p) [] [] pos) (fun σ H Q => ∀ a, H a = none → Q (.ref a) (upd H a (exo a C none))) := by
  refine ⟨fun pins s σ H Q I h => wpAny_Call_Name_kw (ld_glob I hg gC ?_ hdb)⟩
  refine PySem.W.callWith_K0 I.kIn T.kC ?_
  obtain ⟨nm, q, N, bs, bm, sn, sub, ab, col, dd, k0, k1, k2, k3, k5, hC, hbm⟩ := T.cls
  obtain ⟨hp, g, dr, tk, os⟩ := s
  refine PySem.W.call_B F.excBase_ValueError (fun Y => PySem.HandSPX.refsVE_contains Y bm hbm) (I.kIn _ _ hC) (PySem.W.looks_findIn I.kIn hi) (by rw [sizeLine_eq]; exact (by decide : 0 ≤ 16777216)) fun h' keep he _ => ?_
  have big : hp.objs.size ≤ hp.objs.size + 1 := Nat.le_succ _
  exact ⟨.ref (hp.objs.size + 1), _, I.laid (t' := tk) (a := hp.objs.size + 1) (o := exo (hp.objs.size + 1) C none) (h' := h') keep big (exo_ok he), rfl, h _ (I.hok.fresh big)⟩
end
/-! ### its field; isinstance -/
/-- what the class says besides -/
structure ErrCls (K : PySem.W.Frag) (C : Addr) (fld : Str) : Prop where
  ga : PySem.W.findIn K (.ref C) "__getattribute__" = some (some (.builtin "BaseException.__getattribute__"))
  gg : PySem.W.findIn K (.ref C) "__getattr__" = some none
  sb : PySem.W.subIn K (.ref C) (.type "BaseException") = some true
  hd : PySem.W.hasDictIn K C = true
  no : PySem.W.findIn K (.ref C) fld = some none
/-- e.fld -/
def tErrFld (K : PySem.W.Frag) (fld : Str) (te : TE) : TE := fun σ H Q => te σ H fun x H1 => ∃ a C v, x = .ref a ∧ ErrCls K C fld ∧ ErrAt H1 a C fld v ∧ Q v H1
theorem pe_errFld {fld : Str} {e : Expr} {te : TE} {pos : Pos} (he : PE X e te) (hb : attributeBase e fld X.env (eval e X.env) = eval e X.env := by rfl) : PE X (.Attribute e fld pos) (tErrFld X.K fld te) := by
  refine ⟨fun pins s σ H Q I h => attr_of hb (thn (he.run pins s σ H _ I h) fun u s1 ⟨x, H1, I1, rx, a, C, v, ex, T, ⟨d, h1, h2⟩, q⟩ => ?_)⟩
  subst ex
  obtain rfl : u = Value.ref a := rx
  obtain ⟨t1, ho⟩ := exo_at I1.hok h1
  obtain ⟨mA, hns, rel⟩ := exd_at I1.hok h2
  obtain ⟨od, hod, hl⟩ := lookIn_ns hns
  have l : List.lookup fld [(fld, v)] = some v := by simp [List.lookup]
  obtain ⟨u, hu, ru⟩ := RelO.some_of (v := v) (o := mA fld) (by rw [← l]; exact rel fld)
  have J : PySem.W.InstAt s1.heap a _ C (some od) := ⟨ho, rfl, rfl, hod⟩
  exact HandSPX.exc_get I1.kIn J T.ga T.gg T.sb (PySem.W.findObj_own T.hd T.no rfl (by rw [hl, hu])) (handed_of ru) ⟨v, H1, I1.tok _, ru, q⟩
/-- isinstance(e, c), e an error with its dict or without -/
def rIsErr (K : PySem.W.Frag) : List V → Hp → VK → Prop := fun xs H Q => ∃ (a C : Addr) (c : V) (cv : Value) (b : Bool), xs = [.ref a, c] ∧ ExcC K C ∧ (H a = some (exo a C none) ∨ ∃ d fs, H a = some (exo a C (some d)) ∧ H d = some (exd d fs)) ∧ ClsV c cv ∧
  PySem.W.kitOne K (.ref C) cv = some b ∧ Q (.bl b) H
theorem call_isErr : CallR X (.builtin "isinstance") (rIsErr X.K) := by
  intro pins s σ H xs us Q I r h
  obtain ⟨a, C, c, cv, b, rfl, T, hH, k, e, q⟩ := h
  obtain ⟨u1, u2, rfl, r1, r2⟩ := vals2 r
  obtain rfl : u1 = Value.ref a := r1
  obtain rfl := k.eq r2
  have hcl : (PySem.W.clsIn X.K C).isSome = true := by
    have z := T.hd
    unfold PySem.W.hasDictIn at z
    cases y : PySem.W.clsIn X.K C with
    | none => rw [y] at z; cases z
    | some cd => rfl
  have fin : ∀ {ox : Obj} {od : Option Obj}, PySem.W.InstAt s.heap a ox C od → wpAny (model X.prog X.w) X.A (call (.builtin "isinstance") [.ref a, u2]) (EP X pins σ Q) X.xe s := fun {ox od} J =>
    PySem.W.kia_one (PySem.W.kitx_exc (ox := ox) (od := od) hcl T.hg T.hk T.hs T.ha T.hn T.ht T.hm) I.kIn J e (fun z => nomatch z) fun tk => ⟨.bl b, H, I.tok tk, rfl, q⟩
  rcases hH with hH | ⟨d, fs, h1, h2⟩
  · obtain ⟨t1, ho⟩ := exo_at I.hok hH
    exact fin (od := none) ⟨ho, rfl, rfl, trivial⟩
  · obtain ⟨t1, ho⟩ := exo_at I.hok h1
    obtain ⟨mA, hns, rel⟩ := exd_at I.hok h2
    obtain ⟨od, hod, hl⟩ := lookIn_ns hns
    exact fin (od := some od) ⟨ho, rfl, rfl, hod⟩
end
end Er
set_option Elab.async false
set_option linter.all false
set_option maxRecDepth 100000
set_option maxHeartbeats 4000000
/-! GA: defs whose bodies ask repr: promises where no repr is under way (guards), repr of data that the heap holds, the law's end over such a promise. -/
namespace Gd
open PySem PySem.Spec PyProof.Rows L2
/-- a promise that is kept where no repr is under way -/
structure FG (P : Program) (w : World) (K : PySem.W.Frag) (mg : Str → Option Value) (base : Heap) (CX : CXT) (k : Nat) (f : Addr) (fd : FuncData) (ps : List Str) (sp : Sp) : Prop where
  len : ∀ vs H Q E, sp vs H Q E → vs.length = ps.length
  run : ∀ (A : Around) (outer : List Env) (s : Shared) (H : Hp) (args : Args) (us : List Value) (vs : List V) (Q : VK) (E : XK), A.guards = some [] → Room k A → Env0 P w K mg base A outer s H →
    BindsTo s fd args (ps.zip us) → Vals vs us → sp vs H Q E → codeAny (model P w) A (.call (.ref f) args) (CR CX outer P w H s Q E) s
section
variable {P : Program} {w : World} {K : PySem.W.Frag} {mg : Str → Option Value} {base : Heap} {CX : CXT} {k : Nat} {f : Addr} {fd : FuncData} {ps : List Str} {sp : Sp}
theorem FG.of (F : FnOk P w K mg base CX k f fd ps sp) : FG P w K mg base CX k f fd ps sp := ⟨F.len, fun A outer s H args us vs Q E _ => F.run A outer s H args us vs Q E⟩
theorem FG.mono {j : Nat} (F : FG P w K mg base CX j f fd ps sp) (h : j ≤ k) : FG P w K mg base CX k f fd ps sp :=
  ⟨F.len, fun A outer s H args us vs Q E hg hr => F.run A outer s H args us vs Q E hg (hr.mono h)⟩

/-- a def by its body, where no repr is under way -/
theorem fg_of {name qual : Str} {params : Arguments} {body : List Stmt} {scope : Scope} {dV kV doc pm cdv ct oc : Value} {an od : Option Addr} {osl : Array (Option Value)} {N : List Str}
    (lk : K.lookup f = some ⟨oc, od, .func (PySem.W.fnOf name qual params body scope dV kV doc pm an cdv ct), osl⟩) (hcd : PySem.W.codeIn K cdv qual = true) (S : FnScope N ps scope) (len : ∀ vs H Q E, sp vs H Q E → vs.length = ps.length)
    (hbody : ∀ (A : Around) (outer : List Env) (s : Shared) (H : Hp) (vs : List V) (Q : VK) (E : XK), A.guards = some [] → Room k (A.deeper (envOfC qual scope s.heap.objs.size f cdv)) → sp vs H Q E →
      ∃ t, PSs (cxOf CX P w K mg base N qual scope f cdv A outer s H E) body t ∧ t { nx := fun _ H' => Q .non H', rt := Q } (start N vs) H) :
    FG P w K mg base CX (k + 1) f (PySem.W.fnOf name qual params body scope dV kV doc pm an cdv ct) ps sp := by
  refine ⟨len, fun A outer s H args us vs Q E hgd hr e0 hb r hsp => ?_⟩
  have hl := len _ _ _ _ hsp
  have KX : K.In s.heap := e0.mod.kin.keeps fun b o e => (e0.bs b o e).1
  have lim : s.heap.NoLimit := e0.mod.nolimit.keeps fun b o e => (e0.bs b o e).1
  have kinds : ∀ y ∈ ps.zip us, scope.names.lookup y.1 = some .local ∨ (scope.names.lookup y.1 = some .cell ∧ ((cellsFrom (s.heap.objs.size + 1) scope.names []).lookup y.1).isSome = true) := fun y hy => by
    rcases S.par y.1 (List.of_mem_zip (show (y.1, y.2) ∈ ps.zip us from hy)).1 with q | q
    · exact .inl q
    · exact .inr ⟨q, PySem.W.cellsFrom_some _ _ _ (.inl q)⟩
  refine codeAny_call_function hr.depth (KX _ _ lk) rfl S.co S.gen rfl (PySem.W.codeRec_of KX hcd) (hb _ _ _ _ ?_)
  refine wpAny_newFunctionEnv_cells S.kind kinds fun env he s1 x => ?_
  subst he
  refine ⟨lim.keeps x.toInCall.keep, codeAny_func ?_⟩
  obtain ⟨t, ht, hq⟩ := hbody A outer s H vs Q E hgd (hr.deeper _) hsp
  have I0 : Inv (cxOf CX P w K mg base N qual scope f cdv A outer s H E) [] (start N vs) H s1 := inv_start S hr.hd e0 hl r x
  refine wpAny_mono (ht.run [] s1 (start N vs) H _ I0 hq) (fun fl s' hs => ?_) fun e s' hs => hs
  cases fl with
  | ret u =>
    obtain ⟨v, σ', H', J, rv, q⟩ := hs
    exact ⟨v, H', J.os, J.bare, J.base, J.hok, rv, q⟩
  | next =>
    obtain ⟨σ', H', J, q⟩ := hs
    exact ⟨V.non, H', J.os, J.bare, J.base, J.hok, rfl, q⟩
  | brk => exact hs.elim fun _ z => z.elim fun _ z => z.2.elim
  | cont => exact hs.elim fun _ z => z.elim fun _ z => z.2.elim
/-- .. of a def as a head's facts tell it -/
theorem FunD_okG {x qual : Str} {params : Arguments} {body : List Stmt} {scope : Scope} {dvs : List V} {kws : List (Str × V)} {N : List Str} (F : FunD K x qual params body scope dvs kws f fd) (S : FnScope N ps scope) (len : ∀ vs H Q E, sp vs H Q E → vs.length = ps.length)
    (hbody : ∀ (cdv : Value) (A : Around) (outer : List Env) (s : Shared) (H : Hp) (vs : List V) (Q : VK) (E : XK), A.guards = some [] → Room k (A.deeper (envOfC qual scope s.heap.objs.size f cdv)) → sp vs H Q E →
      ∃ t, PSs (cxOf CX P w K mg base N qual scope f cdv A outer s H E) body t ∧ t { nx := fun _ H' => Q .non H', rt := Q } (start N vs) H) : FG P w K mg base CX (k + 1) f fd ps sp := by
  obtain ⟨oc, od, dV, kV, doc, pm, an, cdv, ct, osl, rfl, lk, hcd, _, _⟩ := F.ex
  exact fg_of lk hcd S len fun A outer s H vs Q E hg hr hsp => hbody cdv A outer s H vs Q E hg hr hsp
end
section
variable {X : Cx} {CX : CXT} {k : Nat} {f : Addr} {fd : FuncData} {ps : List Str} {sp : Sp} {dvs : List V} {ds : List Value} {E : XK} {x : Str} {p pos : Pos} {e : Expr} {es : List Expr} {t : TA}
theorem run_fg {pins : List (Addr × Obj)} {σ : L2.St} {H : Hp} {s : Shared} {Q : VK} {us : List Value} {vs : List V} (gd : X.A.guards = some []) (F : FG X.prog X.w X.K X.mg X.base CX k f fd ps sp) (hr : Room k X.A) (hb : Binds X.K fd ps ds) (hd : Vals dvs ds)
    (hx : Passes CX X E) (I : Inv X pins σ H s) (r : Vals vs us) (h : sp (vs ++ dvs) H Q E) : wpAny (model X.prog X.w) X.A (call (.ref f) us) (EP X pins σ Q) X.xe s := by
  have r2 : Vals (vs ++ dvs) (us ++ ds) := r.append hd
  have hl : (us ++ ds).length = ps.length := r2.length.symm.trans (F.len _ _ _ _ h)
  refine wpAny_call (codeAny_mono (F.run X.A X.stack s H ⟨us, []⟩ (us ++ ds) (vs ++ dvs) Q E gd hr I.env0 (hb s us I.kIn hl) r2 h) fun r s' hq => ?_)
  cases r with
  | error e => exact hx pins σ H s e s' I hq
  | ok fl => cases fl <;> first | exact I.after hq | exact False.elim hq
theorem pe_fg (gd : X.A.guards = some []) (F : FG X.prog X.w X.K X.mg X.base CX k f fd ps sp) (hr : Room k X.A) (hg : Gl X x) (hm : X.mg x = some (.ref f)) (hk : PySem.W.keepIn X.K (.ref f) = true) (hb : Binds X.K fd ps ds) (hd : Vals dvs ds) (hx : Passes CX X E)
    (ha : PA X (e :: es) t) (hdb : (x == ("__debug__" : Str)) = false := by decide) (he : starEach (e :: es) X.env = (false, eval e X.env) :: starEach es X.env := by rfl) (hpl : (backTo pos (starEach es X.env)).any (·.1) = false := by rfl) :
    PE X (.Call (.Name x p) (e :: es) [] pos) (tCall sp dvs E t) := by
  refine ⟨fun pins s σ H Q I h => wpAny_Call_Name_kw (ld_glob I hg hm ?_ hdb)⟩
  exact PySem.W.callWith_K (h₀ := X.base) I.ok.mod.kin hk (thn (ha.run pos pins s σ H _ I h) fun us s1 ⟨vs, H1, I1, r, q⟩ => ⟨I1.kIn, run_fg gd F hr hb hd hx I1 r q⟩) he hpl
theorem pe_fg0 (gd : X.A.guards = some []) (F : FG X.prog X.w X.K X.mg X.base CX k f fd ps sp) (hr : Room k X.A) (hg : Gl X x) (hm : X.mg x = some (.ref f)) (hk : PySem.W.keepIn X.K (.ref f) = true) (hb : Binds X.K fd ps ds) (hd : Vals dvs ds) (hx : Passes CX X E)
    (hdb : (x == ("__debug__" : Str)) = false := by decide) : PE X (.Call (.Name x p) [] [] pos) (tCall sp dvs E tNil) := by
  refine ⟨fun pins s σ H Q I h => wpAny_Call_Name_kw (ld_glob I hg hm ?_ hdb)⟩
  exact PySem.W.callWith_K0 I.kIn hk (run_fg (us := []) gd F hr hb hd hx I .nil h)
end

/-! ### data that the heap holds, dicts too -/
def kD : Key → PyData
  | .inl i => .int i
  | .inr x => .str x
mutual
inductive Dq (K : PySem.W.Frag) (H : Hp) : V → PyData → Prop
  | non : Dq K H .non .none
  | bl (b : Bool) : Dq K H (.bl b) (.bool b)
  | int (i : Int) : Dq K H (.int i) (.int i)
  | str (x : Str) : Dq K H (.str x) (.str x)
  | lst {a : Addr} {xs : List V} {ds : List PyData} : SqL K H a xs → DqAll K H xs ds → Dq K H (.ref a) (.list ds)
  | tup {a : Addr} {xs : List V} {ds : List PyData} : SqT K H a xs → DqAll K H xs ds → Dq K H (.ref a) (.tuple ds)
  | dct {a : Addr} {kvs : List (Key × V)} {qs : List (PyData × PyData)} : H a = some (.dK kvs) → DqKv K H kvs qs → Dq K H (.ref a) (.dict qs)
inductive DqAll (K : PySem.W.Frag) (H : Hp) : List V → List PyData → Prop
  | nil : DqAll K H [] []
  | cons {v : V} {vs : List V} {d : PyData} {ds : List PyData} : Dq K H v d → DqAll K H vs ds → DqAll K H (v :: vs) (d :: ds)
inductive DqKv (K : PySem.W.Frag) (H : Hp) : List (Key × V) → List (PyData × PyData) → Prop
  | nil : DqKv K H [] []
  | cons {k : Key} {v : V} {kvs : List (Key × V)} {d : PyData} {qs : List (PyData × PyData)} : Dq K H v d → DqKv K H kvs qs → DqKv K H ((k, v) :: kvs) ((kD k, d) :: qs)
end
/-- the boot's table of modules stands -/
def Mods (base : Heap) : Prop := ∃ o, base.get? sysModules = some o ∧ o.cls = .type "dict"
section
variable {X : Cx} {pins : List (Addr × Obj)} {σ : L2.St} {H : Hp} {s : Shared}
theorem ne_sys (hB : Mods X.base) (I : Inv X pins σ H s) {a : Addr} {o : Obj} (e : s.heap.get? a = some o) (c : o.cls ≠ .type "dict") : sysModules ≠ a := fun z => by
  obtain ⟨u, hu, hc⟩ := hB
  have y := I.bk _ _ hu
  rw [z, e] at y
  cases y
  exact c hc
theorem keys_read {h : Heap} : ∀ {es : List DictEntry} {kvs : List (Key × Value)}, Pairs (mixKind X.prog X.w) es kvs → ReadsAll h (es.map (·.key)) (kvs.map fun q => kD q.1) []
  | _, _, .nil => .nil
  | _, _, .cons (kv := kv) h1 _ r => by
    obtain ⟨k, v⟩ := kv
    have e := keyIs_shape (show keyIs k _ = true from h1)
    have r2 := keys_read (h := h) r
    rcases e with ⟨i, t, rfl, e⟩ | ⟨x, t, rfl, e⟩
    · rw [List.map_cons, e]
      exact ReadsAll.cons (as := []) (bs := []) (Reads.int i t) r2
    · rw [List.map_cons, e]
      exact ReadsAll.cons (as := []) (bs := []) (Reads.str x t) r2
theorem pairs_vals : ∀ {es : List DictEntry} {kvs : List (Key × Value)}, Pairs (mixKind X.prog X.w) es kvs → es.map (·.val) = kvs.map (·.2)
  | _, _, .nil => rfl
  | _, _, .cons _ h2 r => by
    rw [List.map_cons, List.map_cons, pairs_vals r, h2]
theorem keys_of : ∀ {kvs : List (Key × V)} {vs : List (Key × Value)} {qs : List (PyData × PyData)}, KV kvs vs → DqKv X.K H kvs qs → vs.map (fun q => kD q.1) = qs.map (·.1)
  | _, _, _, .nil, .nil => rfl
  | _, _, _, .cons r1 r2, .cons _ h => by
    have e := r1.1
    dsimp only at e
    rw [List.map_cons, List.map_cons, keys_of r2 h, ← e]
mutual
theorem Dq.reads (hB : Mods X.base) (I : Inv X pins σ H s) : ∀ (d : PyData) (v : V) (u : Value), Dq X.K H v d → RelV v u → ∃ as, Reads s.heap u d as ∧ sysModules ∉ as
  | .none, _, _, h, r => by
    cases h; cases r
    exact ⟨_, Reads.none, fun z => nomatch z⟩
  | .bool b, _, _, h, r => by
    cases h; cases r
    exact ⟨_, Reads.bool b, fun z => nomatch z⟩
  | .int i, _, _, h, r => by
    cases h
    obtain ⟨t, rfl⟩ := r
    exact ⟨_, Reads.int i t, fun z => nomatch z⟩
  | .str x, _, _, h, r => by
    cases h
    obtain ⟨t, rfl⟩ := r
    exact ⟨_, Reads.str x t, fun z => nomatch z⟩
  | .list ds, _, _, h, r => by
    cases h with
    | lst hs ha =>
      cases r
      obtain ⟨its, rv, ⟨o, n, ho, hc, _, hd⟩, _⟩ := I.list hs
      obtain ⟨as, hr, hn⟩ := Dq.readsAll hB I ds _ its ha rv
      refine ⟨_, Reads.list ho hc hd hr, fun z => ?_⟩
      rcases List.mem_cons.mp z with z | z
      · exact ne_sys hB I ho (by rw [hc]; decide) z
      · exact hn z
  | .tuple ds, _, _, h, r => by
    cases h with
    | tup hs ha =>
      cases r
      obtain ⟨its, rv, ⟨o, ho, hc, n, hd⟩, _⟩ := I.tuple hs
      obtain ⟨as, hr, hn⟩ := Dq.readsAll hB I ds _ its ha rv
      exact ⟨_, Reads.tuple ho hc hd hr, hn⟩
  | .dict qs, _, _, h, r => by
    cases h with
    | dct hs ha =>
      cases r
      obtain ⟨_, hy, vs, rv, o, es, ep, ho, hx, hd, _, hp, _⟩ := I.hok _ _ hs
      obtain ⟨bs, hr, hn⟩ := Dq.readsKv hB I qs _ vs ha rv
      have h1 := keys_read (h := s.heap) hp
      rw [keys_of rv ha] at h1
      rw [← pairs_vals hp] at hr
      refine ⟨_, Reads.dict ho hx.1 hd h1 hr, fun z => ?_⟩
      rcases List.mem_cons.mp z with z | z
      · rw [← z] at hy
        exact absurd hy (by decide)
      · exact hn z
theorem Dq.readsAll (hB : Mods X.base) (I : Inv X pins σ H s) : ∀ (ds : List PyData) (vs : List V) (us : List Value), DqAll X.K H vs ds → Vals vs us → ∃ as, ReadsAll s.heap us ds as ∧ sysModules ∉ as
  | [], _, _, h, r => by
    cases h; cases r
    exact ⟨_, ReadsAll.nil, fun z => nomatch z⟩
  | d :: ds, _, _, h, r => by
    cases h with
    | cons h1 h2 =>
      cases r with
      | cons r1 r2 =>
        obtain ⟨as, q1, n1⟩ := Dq.reads hB I d _ _ h1 r1
        obtain ⟨bs, q2, n2⟩ := Dq.readsAll hB I ds _ _ h2 r2
        exact ⟨_, ReadsAll.cons q1 q2, fun z => (List.mem_append.mp z).elim n1 n2⟩
theorem Dq.readsKv (hB : Mods X.base) (I : Inv X pins σ H s) : ∀ (qs : List (PyData × PyData)) (kvs : List (Key × V)) (us : List (Key × Value)), DqKv X.K H kvs qs → KV kvs us → ∃ as, ReadsAll s.heap (us.map (·.2)) (qs.map (·.2)) as ∧ sysModules ∉ as
  | [], _, _, h, r => by
    cases h; cases r
    exact ⟨_, ReadsAll.nil, fun z => nomatch z⟩
  | q :: qs, _, _, h, r => by
    cases h with
    | cons h1 h2 =>
      cases r with
      | cons r1 r2 =>
        obtain ⟨as, q1, n1⟩ := Dq.reads hB I _ _ _ h1 r1.2
        obtain ⟨bs, q2, n2⟩ := Dq.readsKv hB I qs _ _ h2 r2
        exact ⟨_, ReadsAll.cons q1 q2, fun z => (List.mem_append.mp z).elim n1 n2⟩
end
/-- repr(e), e a list, a tuple or a dict -/
def rRepr (K : PySem.W.Frag) : List V → Hp → VK → Prop := fun xs H Q => ∃ (a : Addr) (d : PyData), xs = [.ref a] ∧ Dq K H (.ref a) d ∧ d.showable = true ∧ d.depth ≤ 40 ∧ d.shown.length ≤ sizeLine ∧ Q (.str d.shown) H
theorem call_repr (hB : Mods X.base) (gd : X.A.guards = some []) (hu : X.A.units + 64 < cLine) : CallR X (.builtin "repr") (rRepr X.K) := by
  intro pins s σ H xs us Q I r h
  obtain ⟨a, d, rfl, hd, hs, hz, hl, q⟩ := h
  obtain ⟨u, rfl, ru⟩ := vals1 r
  obtain ⟨as, hr, hn⟩ := Dq.reads hB I d _ _ hd ru
  obtain rfl : u = Value.ref a := ru
  exact repr_of_reads' hr hs (fun _ => hn) gd (by omega) (fun _ _ e => e) (fun h' u tk hk => ⟨.str d.shown, H, I.kept hk, ⟨u, rfl⟩, q⟩) hl
end
end Gd
set_option Elab.async false
set_option linter.all false
set_option maxRecDepth 100000
set_option maxHeartbeats 4000000
/-! GB: the law's end over a promise that is kept where no repr is under way. -/
namespace Gd
open PySem PySem.Spec PyProof.Rows L2
/-- what is wanted of the law's call -/
abbrev Kept (s₁ : Shared) (r : Result) (s' : Shared) : Prop := r = .ok (.ret (.bool true)) ∧ OldK s₁.heap s'.heap ∧ s'.os = s₁.os ∧ AllBare s'.gens
section
variable {P : Program} {w : World} {K : PySem.W.Frag} {mg mb : Str → Option Value} {k : Nat} {fa a : Addr} {fd : FuncData} {x : Str} {sp : Sp} {s₁ : Shared} {vs : List Value} {ns : List Int} {H : Hp}
/-- from an abstract heap in which at most the script is tracked -/
theorem call_from (KX : K.In s₁.heap) (hns : s₁.heap.Ns mainGlobals mg) (hb : s₁.heap.Ns builtinsNs mb) (hbb : ∀ x : Str, x ≠ "__name__" → mb x = bootBuiltins x) (hlim : s₁.heap.NoLimit) (hM : Mods s₁.heap) (hg : s₁.gens = #[])
    (ha : s₁.heap.get? a = some { cls := .type "list", data := .seq vs.toArray }) (hr : Room k PySem.callerA) (hO : Only H) (hok : HOk P w H s₁.heap) (hA : ∀ b, H b ≠ none → b = a) (hK : H a ≠ none → K.lookup a = none)
    (F : ∀ base : Heap, K.In base → base.Ns mainGlobals mg → Mods base → FG P w K mg base CX0 k fa fd [x] sp) (hbind : ∀ (s : Shared) (u : Value), BindsTo s fd ⟨[u], []⟩ [(x, u)])
    (hsp : sp [.ref a] H (fun v _ => v = .bl true) fun _ _ _ => False) :
    codeAny (model P w) PySem.callerA (.call (.ref fa) ⟨[.ref a], []⟩) (Kept s₁) s₁ := by
  have free : ∀ {b : Addr}, b ≠ a → H b = none := fun {b} nb => by
    cases q : H b with
    | none => rfl
    | some u => exact absurd (hA b (by rw [q]; exact fun z => nomatch z)) nb
  have stays : ∀ {b : Addr} {o : Obj}, s₁.heap.get? b = some o → b ≠ a → (hidT s₁.heap H).get? b = some o := fun e nb => hidT_get e (free nb)
  have noList : ∀ {b : Addr} {o : Obj} {es : Array DictEntry} {ep : Nat}, s₁.heap.get? b = some o → o.data = .dict es ep → b ≠ a := fun e d z => by
    rw [z, ha] at e
    cases e
    cases d
  have nsK : ∀ {b : Addr} {m : Str → Option Value}, s₁.heap.Ns b m → (hidT s₁.heap H).Ns b m := fun {b m} ⟨o, es, ep, e, d, r⟩ => ⟨o, es, ep, stays e (noList e d), d, r⟩
  have hKb : K.In (hidT s₁.heap H) := fun b o e => hidT_get (KX b o e) (by
    cases q : H b with
    | none => rfl
    | some u =>
      have z := hA b (by rw [q]; exact fun z => nomatch z)
      subst z
      rw [hK (by rw [q]; exact fun z => nomatch z)] at e
      cases e)
  have hMb : Mods (hidT s₁.heap H) := by
    obtain ⟨o, e, c⟩ := hM
    refine ⟨o, stays e fun z => ?_, c⟩
    rw [z, ha] at e
    cases e
    have y : ("list" : String) = "dict" := Value.type.inj c
    exact absurd y (by decide)
  have hMod : Mod K mg (hidT s₁.heap H) := ⟨hKb, nsK hns, ⟨mb, nsK hb, hbb⟩, hlim.elim fun mc z => ⟨mc, nsK z.1, z.2⟩⟩
  have e0 : Env0 P w K mg (hidT s₁.heap H) PySem.callerA [] s₁ H := ⟨rfl, hMod, fun b o e => of_hidT e, Nat.le_of_eq (hidT_size _ _), trivial, fun b z => absurd z (List.not_mem_nil), hok, .of_eq hg⟩
  refine codeAny_mono ((F _ hKb (nsK hns) hMb).run PySem.callerA [] s₁ H ⟨[.ref a], []⟩ [.ref a] [.ref a] _ _ rfl hr e0 (hbind s₁ (.ref a)) (.cons rfl .nil) hsp) fun r s' h => ?_
  cases r with
  | error e => exact False.elim h
  | ok fl =>
    cases fl with
    | ret u =>
      obtain ⟨v, H', os, bare, un, hok', r', q⟩ := h
      have q' : v = .bl true := q
      subst q'
      obtain rfl : u = Value.bool true := r'
      refine ⟨rfl, OldK.of_keep fun b o e => ?_, os, bare⟩
      rcases hO b with z | ⟨ob, xs, z⟩
      · exact un.keep b o e z (List.not_mem_nil) (List.not_mem_nil)
      · have z2 := un.frzs b ob _ z
        have e1 := (hok b _ z).1
        have e2 := (hok' b _ z2).1
        rw [e] at e1
        cases e1
        exact e2
    | _ => exact False.elim h
theorem law_callG (KX : K.In s₁.heap) (hns : s₁.heap.Ns mainGlobals mg) (hb : s₁.heap.Ns builtinsNs mb) (hbb : ∀ x : Str, x ≠ "__name__" → mb x = bootBuiltins x) (hlim : s₁.heap.NoLimit) (hM : Mods s₁.heap) (hg : s₁.gens = #[])
    (ha : s₁.heap.get? a = some { cls := .type "list", data := .seq vs.toArray }) (hi : IntsAre vs ns) (hl : ns.length ≤ sizeLine) (hr : Room k PySem.callerA)
    (F : ∀ base : Heap, K.In base → base.Ns mainGlobals mg → Mods base → FG P w K mg base CX0 k fa fd [x] sp) (hbind : ∀ (s : Shared) (u : Value), BindsTo s fd ⟨[u], []⟩ [(x, u)])
    (hsp : ∀ H : Hp, Only H → SqL K H a (ns.map V.int) → sp [.ref a] H (fun v _ => v = .bl true) fun _ _ _ => False) :
    codeAny (model P w) PySem.callerA (.call (.ref fa) ⟨[.ref a], []⟩) (Kept s₁) s₁ := by
  have rv := vals_ints hi
  have lenV := hi.length
  cases hk : K.lookup a with
  | some o =>
    have e := KX a o hk
    rw [ha] at e
    cases e
    refine call_from (H := fun _ => none) KX hns hb hbb hlim hM hg ha hr (fun _ => .inl rfl) (fun b u z => nomatch (show (none : Option HO) = some u from z)) (fun b z => absurd rfl z) (fun z => absurd rfl z) F hbind (hsp _ (fun _ => .inl rfl) ?_)
    exact .inr ⟨_, vs.toArray, _, hk, rfl, rfl, rfl, by rw [List.size_toArray, lenV]; exact hl, by simpa using rv⟩
  | none =>
    have hO : Only (fun b => if b = a then some (.frz { cls := .type "list", data := .seq vs.toArray } (.lst (ns.map V.int))) else none) := fun b => by
      by_cases e : b = a
      · exact .inr ⟨_, _, if_pos e⟩
      · exact .inl (if_neg e)
    refine call_from KX hns hb hbb hlim hM hg ha hr hO (fun b u z => ?_) (fun b z => ?_) (fun _ => hk) F hbind (hsp _ hO (.inl (.inr ⟨_, if_pos rfl⟩)))
    · by_cases e : b = a
      · have y := (if_pos e).symm.trans z
        cases y
        subst e
        exact ⟨ha, by rw [List.length_map]; exact hl, vs, _, rv, ha⟩
      · have y := (if_neg e).symm.trans z
        cases y
    · exact Decidable.by_contra fun e => z (if_neg e)
end
/-- a law's end: F gives the written part, the function object, the promise over every base -/
theorem walk_ofG {l : PySem.W.OpenLaw} {n k : Nat} {q : Program} {loose : List Str} {XP : (Str → Option Value) → Heap → Prop} {YP : World → Heap → Prop} {d : DefRec} {x : Str}
    (hn : l.most = some n) (hn2 : n ≤ sizeLine) (hdf : d.params.defaults = []) (hr : Room k PySem.callerA)
    (F : ∀ (w : World) (mg : Str → Option Value) (fa : Addr) (h : Heap), YP w h → h.Ns mainGlobals mg → mg d.name = some (.ref fa) →
      ∃ (K : PySem.W.Frag) (fd : FuncData) (sp : Sp), K.In h ∧ Mods h ∧ (∀ (s : Shared) (u : Value), BindsTo s fd ⟨[u], []⟩ [(x, u)]) ∧
        (∀ (H : Hp) (a : Addr) (ns : List Int), ns.length ≤ n → Only H → SqL K H a (ns.map V.int) → sp [.ref a] H (fun v _ => v = .bl true) fun _ _ _ => False) ∧
        ∀ base : Heap, K.In base → base.Ns mainGlobals mg → Mods base → FG l.prog w K mg base CX0 k fa fd [x] sp) :
    PySem.W.WalkO q loose XP YP l.row.toRowW d [] (fun f vs => PySem.call f vs) := by
  refine Att.attach_call hn hdf fun w s₀ s₁ mg mb fa o pm cd doc a vs ns G Y ho hd hcd hmg hobj hints hlen hg => ?_
  obtain ⟨K, fd, sp, KX, hM, hb, hsp, hF⟩ := F w mg fa _ Y G.T.g hmg
  exact law_callG KX G.T.g G.T.b G.T.builtins G.T.nolimit hM hg hobj hints (Nat.le_trans hlen hn2) hr hF hb fun H hO hS => hsp H a ns hlen hO hS
end Gd
set_option Elab.async false
set_option linter.all false
set_option maxRecDepth 100000
/-! Rd: readings, answered one construct at a time. -/
namespace Rd
open PySem PySem.Spec PyProof.Rows L2
section
variable {σ : L2.St} {H : Hp} {Q : VK} {QB : Bool → Hp → Prop} {QA : List V → Hp → Prop} {v x y : V} {ta tb te : TE} {t : TA} {tt tu : TT} {i j : Int} {n : Nat} {D : Ends} {g : TG} {s u : TS}
def rInt1 : List V → Hp → VK → Prop := fun xs H Q => (∃ k, xs = [.int k] ∧ Q (.int k) H) ∨ ∃ k : Bool, xs = [.bl k] ∧ Q (.int (if k then 1 else 0)) H
def rMx : List V → Hp → VK → Prop := fun xs H Q => ∃ i j, xs = [.int i, .int j] ∧ Q (.int (if j > i then j else i)) H
def rLn (K : PySem.W.Frag) : List V → Hp → VK → Prop := fun xs H Q => ∃ p ys, xs = [.ref p] ∧ (SqL K H p ys ∨ SqT K H p ys) ∧ Q (.int ys.length) H
theorem c_int {X : Cx} : CallR X (.type "int") rInt1 := call_int1
theorem c_max {X : Cx} (hc : X.calm = true) : CallR X (.builtin "max") rMx := call_max2 hc
theorem c_len {X : Cx} : CallR X (.builtin "len") (rLn X.K) := call_len_seq
def isB (QB : Bool → Hp → Prop) (x : V) (H : Hp) : Prop := ∃ k, x = .bl k ∧ QB k H
def newL (Q : VK) (xs : List V) (H : Hp) : Prop := xs.length ≤ sizeLine ∧ ∀ p, H p = none → Q (.ref p) (upd H p (.lst xs))
def newT (Q : VK) (xs : List V) (H : Hp) : Prop := xs.length ≤ sizeLine ∧ ∀ p, H p = none → Q (.ref p) (upd H p (.tup xs))
theorem mkL {xs : List V} (q : ∀ p, H p = none → Q (.ref p) (upd H p (.lst xs))) (h : xs.length ≤ 1000 := by exact Nat.le_of_ble_eq_true rfl) : newL Q xs H := ⟨Nat.le_trans h (by decide), q⟩
theorem mkT {xs : List V} (q : ∀ p, H p = none → Q (.ref p) (upd H p (.tup xs))) (h : xs.length ≤ 1000 := by exact Nat.le_of_ble_eq_true rfl) : newT Q xs H := ⟨Nat.le_trans h (by decide), q⟩
theorem var (h : σ[n]? = some (some v)) (q : Q v H) : tVar n σ H Q := ⟨v, h, q⟩
theorem con (q : Q v H) : tC v σ H Q := q
theorem op {r : R2} (q : ta σ H fun x H1 => tb σ H1 fun y H2 => r x y H2 Q) : tOp r ta tb σ H Q := q
theorem un {r : V → Hp → VK → Prop} (q : ta σ H fun x H1 => r x H1 Q) : tUn r ta σ H Q := q
theorem i0 {k : Int → Int → V} (q : Q (k i j) H) : rI0 k (.int i) (.int j) H Q := ⟨i, j, rfl, rfl, q⟩
theorem ic {C : Int → Int → Prop} {k : Int → Int → V} (c : C i j) (q : Q (k i j) H) : rI C k (.int i) (.int j) H Q := ⟨i, j, rfl, rfl, c, q⟩
theorem iu {k : Int → V} (q : Q (k i) H) : rU k (.int i) H Q := ⟨i, rfl, q⟩
theorem nil (q : QA [] H) : tNil σ H QA := q
theorem cons {tr : TA} (q : te σ H fun x H1 => tr σ H1 fun xs H2 => QA (x :: xs) H2) : tCons te tr σ H QA := q
theorem cb {r : List V → Hp → VK → Prop} (q : t σ H fun vs H1 => r vs H1 Q) : tCB r t σ H Q := q
theorem asg (q : te σ H fun x H1 => g x σ H1 D.nx) : tAsg te g D σ H := q
theorem name {R : L2.St → Hp → Prop} (q : R (σ.set n (some v)) H) : gName n v σ H R := q
theorem seq (q : s { D with nx := u D } σ H) : tSeq s u D σ H := q
theorem ret (q : te σ H D.rt) : tRet te D σ H := q
theorem retN (q : D.rt .non H) : tRetN D σ H := q
theorem nxt (q : D.nx σ H) : tNext D σ H := q
theorem tst (q : te σ H fun x H1 => isB QB x H1) : tTest te σ H QB := q
theorem tb_ (q : te σ H fun x H1 => isB QB x H1) : tB te σ H QB := q
theorem tnot (q : tt σ H fun c H1 => QB (!c) H1) : tNot tt σ H QB := q
theorem tor (q : tt σ H fun c H1 => if c = true then QB true H1 else tu σ H1 QB) : tOr tt tu σ H QB := q
theorem tand (q : tt σ H fun c H1 => if c = true then tu σ H1 QB else QB false H1) : tAnd tt tu σ H QB := q
theorem ifs (q : tt σ H fun b H1 => if b = true then s D σ H1 else u D σ H1) : tIfS tt s u D σ H := q
theorem ife (q : tt σ H fun c H1 => if c = true then ta σ H1 Q else tb σ H1 Q) : tIf tt ta tb σ H Q := q
theorem lst (q : t σ H fun xs H1 => newL Q xs H1) : tLst t σ H Q := q
theorem tup (q : t σ H fun xs H1 => newT Q xs H1) : tTup t σ H Q := q
theorem int1 (q : Q (.int i) H) : rInt1 [V.int i] H Q := .inl ⟨i, rfl, q⟩
theorem mx (q : Q (.int (if j > i then j else i)) H) : rMx [V.int i, V.int j] H Q := ⟨i, j, rfl, q⟩
theorem lnL {K : PySem.W.Frag} {p : Addr} {ys : List V} (h : SqL K H p ys) (q : Q (.int ys.length) H) : rLn K [V.ref p] H Q := ⟨p, ys, rfl, .inl h, q⟩
theorem lnT {K : PySem.W.Frag} {p : Addr} {ys : List V} (h : SqT K H p ys) (q : Q (.int ys.length) H) : rLn K [V.ref p] H Q := ⟨p, ys, rfl, .inr h, q⟩
def isI (k : Int → Hp → Prop) (x : V) (H : Hp) : Prop := ∃ i, x = .int i ∧ k i H
theorem int_ {k : Int → Hp → Prop} (q : k i H) : isI k (.int i) H := ⟨i, rfl, q⟩
theorem bits (q : te σ H fun x H1 => isI (fun i H2 => Q (.int (Builtin.Int.intBits i : Nat)) H2) x H1) : tBits te σ H Q := q
theorem sub {to ti : TE} {t : V → V → V → Hp → (Hp → Prop) → Prop} {R : L2.St → Hp → Prop} (q : to σ H fun o H1 => ti σ H1 fun i H2 => t o i v H2 fun H3 => R σ H3) : gSub to ti t v σ H R := q
theorem bl {b : Bool} (q : QB b H) : isB QB (.bl b) H := ⟨b, rfl, q⟩
theorem call {sp : Sp} {dvs : List V} {E : XK} (q : t σ H fun vs H1 => sp (vs ++ dvs) H1 Q E) : tCall sp dvs E t σ H Q := q
theorem exps {K : Ends} (q : te σ H fun _ H1 => K.nx σ H1) : te σ H fun _ H1 => K.nx σ H1 := q
def isP (k : V → V → Hp → Prop) (vs : List V) (H : Hp) : Prop := ∃ v w, vs = [v, w] ∧ k v w H
theorem p2 {k : V → V → Hp → Prop} (q : k x y H) : isP k [x, y] H := ⟨x, y, rfl, q⟩
theorem par {i j : Nat} {ta : TA} (q : ta σ H fun vs H1 => isP (fun v w H2 => D.nx ((σ.set i (some v)).set j (some w)) H2) vs H1) : tPar i j ta D σ H := q
theorem eq_ (h : scal x y = true) (q : Q (.bl (decide (x = y))) H) : rEq x y H Q := ⟨h, q⟩
theorem ne_ (h : scal x y = true) (q : Q (.bl (!decide (x = y))) H) : rNe x y H Q := ⟨h, q⟩
theorem ixL {K : PySem.W.Frag} {p : Addr} {xs : List V} {i : Int} (h : SqL K H p xs) (a : atI xs i = some v) (q : Q v H) : rIxL K (.ref p) (.int i) H Q := ⟨p, xs, i, v, rfl, rfl, h, a, q⟩
theorem ixLT {K : PySem.W.Frag} {p : Addr} {xs : List V} {i : Int} (h : H p = some (.lst xs)) (a : atI xs i = some v) (q : Q v H) : rIxL K (.ref p) (.int i) H Q := ⟨p, xs, i, v, rfl, rfl, SqL.of h, a, q⟩
theorem setL {p : Addr} {xs : List V} {k : Int} {j : Nat} {R : Hp → Prop} (h : H p = some (.lst xs)) (a : ixN xs.length k = some j) (q : R (upd H p (.lst (xs.set j v)))) : rSetL (.ref p) (.int k) v H R := ⟨p, xs, k, j, rfl, rfl, h, a, q⟩
end
/-! ### loops -/
/-- for i in range(n): what is left to answer -/
def loopR (lo : Int) (n : Nat) (g : TG) (tb : TS) (D : Ends) (σ : L2.St) (H : Hp) : Prop := ∃ W : Nat → Nat → L2.St → Hp → Prop, (∃ m, W 0 m σ H) ∧ ∀ i m σ H, W i m σ H →
  ((Itr lo n).stop i H ∧ D.nx σ H) ∨ ((Itr lo n).go i H ∧ ∃ N : L2.St → Hp → Prop, (∀ σ' H', N σ' H' → ∃ m', m' < m ∧ W (i + 1) m' σ' H') ∧ ∀ x H', (Itr lo n).yld i H x H' → g x σ H' fun σ2 H2 => tb { D with nx := N, ct := N, bk := D.nx } σ2 H2)
def isI1 (k : Nat → Hp → Prop) (vs : List V) (H : Hp) : Prop := ∃ j : Int, vs = [.int j] ∧ -(2 ^ 62) ≤ j ∧ j < 2 ^ 62 ∧ k j.toNat H
theorem forR {ta : TA} {g : TG} {tb : TS} {D : Ends} {σ : L2.St} {H : Hp} (q : ta σ H fun vs H1 => isI1 (fun n H2 => loopR 0 n g tb D σ H2) vs H1) : tFor (iRng1 ta) g tb D σ H := q
theorem i1 {k : Nat → Hp → Prop} {j : Int} {H : Hp} (h1 : -(2 ^ 62) ≤ j) (h2 : j < 2 ^ 62) (q : k j.toNat H) : isI1 k [.int j] H := ⟨j, rfl, h1, h2, q⟩
theorem byR {lo : Int} {n : Nat} {g : TG} {tb : TS} {D : Ends} {σ : L2.St} {H : Hp} (Pv : Nat → L2.St → Hp → Prop) (h0 : Pv 0 σ H)
    (hs : ∀ i σ H, i < n → Pv i σ H → g (.int (lo + i)) σ H fun σ2 H2 => tb { D with nx := Pv (i + 1), ct := Pv (i + 1), bk := D.nx } σ2 H2) (hd : ∀ σ H, Pv n σ H → D.nx σ H) : loopR lo n g tb D σ H := for_range Pv h0 hs hd
/-- for x in a list -/
def loopL (K : PySem.W.Frag) (a : Addr) (g : TG) (tb : TS) (D : Ends) (σ : L2.St) (H : Hp) : Prop := ∃ W : Nat → Nat → L2.St → Hp → Prop, (∃ m, W 0 m σ H) ∧ ∀ i m σ H, W i m σ H →
  ((Itl K a).stop i H ∧ D.nx σ H) ∨ ((Itl K a).go i H ∧ ∃ N : L2.St → Hp → Prop, (∀ σ' H', N σ' H' → ∃ m', m' < m ∧ W (i + 1) m' σ' H') ∧ ∀ x H', (Itl K a).yld i H x H' → g x σ H' fun σ2 H2 => tb { D with nx := N, ct := N, bk := D.nx } σ2 H2)
def isL1 (K : PySem.W.Frag) (k : Addr → Hp → Prop) (x : V) (H : Hp) : Prop := ∃ a, x = .ref a ∧ (∃ xs, SqL K H a xs) ∧ k a H
theorem forL {K : PySem.W.Frag} {tl : TE} {g : TG} {tb : TS} {D : Ends} {σ : L2.St} {H : Hp} (q : tl σ H fun x H1 => isL1 K (fun a H2 => loopL K a g tb D σ H2) x H1) : tFor (iList K tl) g tb D σ H := q
theorem l1 {K : PySem.W.Frag} {k : Addr → Hp → Prop} {a : Addr} {xs : List V} {H : Hp} (h : SqL K H a xs) (q : k a H) : isL1 K k (.ref a) H := ⟨a, rfl, ⟨xs, h⟩, q⟩
theorem byL {K : PySem.W.Frag} {a : Addr} {xs : List V} {g : TG} {tb : TS} {D : Ends} {σ : L2.St} {H : Hp} (Pv : Nat → L2.St → Hp → Prop) (h0 : Pv 0 σ H) (hl : ∀ i σ H, i ≤ xs.length → Pv i σ H → SqL K H a xs)
    (hs : ∀ i x σ H, xs[i]? = some x → Pv i σ H → g x σ H fun σ2 H2 => tb { D with nx := Pv (i + 1), ct := Pv (i + 1), bk := D.nx } σ2 H2) (hd : ∀ σ H, Pv xs.length σ H → D.nx σ H) : loopL K a g tb D σ H := for_list Pv h0 hl hs hd
/-- [e for i in range(n) if ..] -/
def compR (lo : Int) (n : Nat) (g : TG) (tt : TT) (te : TE) (vs : List Nat) (σ : L2.St) (D : Addr) (Qd : Hp → Prop) (H1 : Hp) : Prop := ∃ W : Nat → Nat → Hp → Prop, (∃ m, W 0 m (upd H1 D (.lst []))) ∧ ∀ i m H, W i m H →
  ((Itr lo n).stop i H ∧ Qd H) ∨ ((Itr lo n).go i H ∧ ∃ Nx : Hp → Prop, (∀ H', Nx H' → ∃ m', m' < m ∧ W (i + 1) m' H') ∧ ∀ x H', (Itr lo n).yld i H x H' → g x (wipe σ vs) H' fun σ2 H2 => wipe σ2 vs = wipe σ vs ∧ tt σ2 H2 fun b H3 =>
    if b = true then te σ2 H3 fun y H4 => ∃ acc, H4 D = some (.lst acc) ∧ acc.length < sizeLine ∧ Nx (upd H4 D (.lst (acc ++ [y]))) else Nx H3)
def compL (K : PySem.W.Frag) (a : Addr) (g : TG) (tt : TT) (te : TE) (vs : List Nat) (σ : L2.St) (D : Addr) (Qd : Hp → Prop) (H1 : Hp) : Prop := ∃ W : Nat → Nat → Hp → Prop, (∃ m, W 0 m (upd H1 D (.lst []))) ∧ ∀ i m H, W i m H →
  ((Itl K a).stop i H ∧ Qd H) ∨ ((Itl K a).go i H ∧ ∃ Nx : Hp → Prop, (∀ H', Nx H' → ∃ m', m' < m ∧ W (i + 1) m' H') ∧ ∀ x H', (Itl K a).yld i H x H' → g x (wipe σ vs) H' fun σ2 H2 => wipe σ2 vs = wipe σ vs ∧ tt σ2 H2 fun b H3 =>
    if b = true then te σ2 H3 fun y H4 => ∃ acc, H4 D = some (.lst acc) ∧ acc.length < sizeLine ∧ Nx (upd H4 D (.lst (acc ++ [y]))) else Nx H3)
theorem lcR {ta : TA} {g : TG} {tt : TT} {te : TE} {ws : List Nat} {σ : L2.St} {H : Hp} {Q : VK} (q : ta σ H fun vs H1 => isI1 (fun n H2 => ∀ D, H2 D = none → compR 0 n g tt te ws σ D (Q (.ref D)) H2) vs H1) : tLc (iRng1 ta) g tt te ws σ H Q := q
theorem lcL {K : PySem.W.Frag} {tl : TE} {g : TG} {tt : TT} {te : TE} {ws : List Nat} {σ : L2.St} {H : Hp} {Q : VK} (q : tl σ H fun x H1 => isL1 K (fun a H2 => ∀ D, H2 D = none → compL K a g tt te ws σ D (Q (.ref D)) H2) x H1) : tLc (iList K tl) g tt te ws σ H Q := q
/-- the end of a comprehension's turn: the item goes to the list at D -/
def accs (D : Addr) (Nx : Hp → Prop) (y : V) (H : Hp) : Prop := ∃ acc, H D = some (.lst acc) ∧ acc.length < sizeLine ∧ Nx (upd H D (.lst (acc ++ [y])))
def turnC (g : TG) (tt : TT) (te : TE) (ws : List Nat) (σ : L2.St) (D : Addr) (Nx : Hp → Prop) (x : V) (H : Hp) : Prop := g x (wipe σ ws) H fun σ2 H2 => wipe σ2 ws = wipe σ ws ∧ tt σ2 H2 fun b H3 => if b = true then te σ2 H3 fun y H4 => accs D Nx y H4 else Nx H3
theorem byCR {lo : Int} {n : Nat} {g : TG} {tt : TT} {te : TE} {ws : List Nat} {σ : L2.St} {H1 : Hp} {D : Addr} {Qd : Hp → Prop} (Pv : Nat → Hp → Prop) (h0 : Pv 0 (upd H1 D (.lst [])))
    (hs : ∀ i H, i < n → Pv i H → turnC g tt te ws σ D (Pv (i + 1)) (.int (lo + i)) H) (hd : ∀ H, Pv n H → Qd H) : compR lo n g tt te ws σ D Qd H1 := lc_range Pv h0 hs hd
theorem byCL {K : PySem.W.Frag} {a : Addr} {xs : List V} {g : TG} {tt : TT} {te : TE} {ws : List Nat} {σ : L2.St} {H1 : Hp} {D : Addr} {Qd : Hp → Prop} (Pv : Nat → Hp → Prop) (h0 : Pv 0 (upd H1 D (.lst []))) (hl : ∀ i H, i ≤ xs.length → Pv i H → SqL K H a xs)
    (hs : ∀ i x H, xs[i]? = some x → Pv i H → turnC g tt te ws σ D (Pv (i + 1)) x H) (hd : ∀ H, Pv xs.length H → Qd H) : compL K a g tt te ws σ D Qd H1 := lc_list Pv h0 hl hs hd
/-- a turn of a comprehension to one name, no if -/
theorem turn1 {n : Nat} {te : TE} {ws : List Nat} {σ : L2.St} {D : Addr} {Nx : Hp → Prop} {x : V} {H : Hp} (w : wipe ((wipe σ ws).set n (some x)) ws = wipe σ ws) (q : te ((wipe σ ws).set n (some x)) H fun y H4 => accs D Nx y H4) : turnC (gName n) tYes te ws σ D Nx x H :=
  ⟨w, (show (if true = true then te ((wipe σ ws).set n (some x)) H (fun y H4 => accs D Nx y H4) else Nx H) from iteT q)⟩
theorem turnIf {n : Nat} {tt : TT} {te : TE} {ws : List Nat} {σ : L2.St} {D : Addr} {Nx : Hp → Prop} {x : V} {H : Hp} (w : wipe ((wipe σ ws).set n (some x)) ws = wipe σ ws)
    (q : tt ((wipe σ ws).set n (some x)) H fun b H3 => if b = true then te ((wipe σ ws).set n (some x)) H3 fun y H4 => accs D Nx y H4 else Nx H3) : turnC (gName n) tt te ws σ D Nx x H := ⟨w, q⟩
theorem acc {D : Addr} {Nx : Hp → Prop} {y : V} {H : Hp} {ys : List V} (h : H D = some (.lst ys)) (z : ys.length < 1000) (q : Nx (upd H D (.lst (ys ++ [y])))) : accs D Nx y H := ⟨ys, h, Nat.lt_of_lt_of_le z (by decide), q⟩
/-! ### slices, walks -/
def slL (K : PySem.W.Frag) (x : V) (lo hi : Option Int) (H : Hp) (Q : VK) : Prop := rSlL K x lo hi H Q
section
variable {K : PySem.W.Frag} {σ : L2.St} {H : Hp} {Q : VK} {a : Addr} {xs : List V} {lo hi : Option Int}
theorem sl {r : V → Option Int → Option Int → Hp → VK → Prop} {te : TE} {tl th : TO} (q : te σ H fun x H1 => tl σ H1 fun l H2 => th σ H2 fun u H3 => r x l u H3 Q) : tSl r te tl th σ H Q := q
theorem noPart {Q : Option Int → Hp → Prop} (q : Q none H) : tNoPart σ H Q := q
theorem part {te : TE} {Q : Option Int → Hp → Prop} (q : te σ H fun x H1 => isI (fun i H2 => Q (some i) H2) x H1) : tPart te σ H Q := q
theorem slOf (h : SqL K H a xs) (q : ∀ p, H p = none → Q (.ref p) (upd H p (.lst (cutV xs lo hi)))) : rSlL K (.ref a) lo hi H Q := ⟨a, xs, rfl, h, q⟩
end
theorem pi_listK {X : Cx} {K : PySem.W.Frag} {tg l : Expr} {tl : TE} (e : X.K = K) (hl : PE X l tl) : PI X tg l (iList K tl) := e ▸ pi_list hl
theorem br {b : Bool} {A B : Prop} (h1 : b = true → A) (h2 : b = false → B) : if b = true then A else B := by
  cases b with
  | true => exact by rw [if_pos rfl]; exact h1 rfl
  | false => exact by rw [if_neg Bool.false_ne_true]; exact h2 rfl
theorem brT {b : Bool} {A B : Prop} (h : b = true) (q : A) : if b = true then A else B := by rw [if_pos h]; exact q
theorem brF {b : Bool} {A B : Prop} (h : b = false) (q : B) : if b = true then A else B := by rw [if_neg (by rw [h]; exact Bool.false_ne_true)]; exact q
theorem szd {n : Nat} (h : n ≤ 1000) : n ≤ sizeLine := Nat.le_trans h (by decide)
end Rd
set_option Elab.async false
set_option linter.all false
set_option maxRecDepth 100000
set_option maxHeartbeats 4000000
/-! the law's draws -/
namespace K1
open PySem PySem.Spec PyProof.Rows L2 Gd Er
def top (i : Nat) : Stmt := PySem.Challenge.pw_callersrights_k01_errors.main.body.getD i (.Pass ⟨0, 0, 0, 0⟩)
abbrev FnP (K : PySem.W.Frag) (x : Str) (st : Stmt) (f : Addr) (fd : FuncData) : Prop := FunD K x x (defArgs st) (defBody st) (defScope st) [] [] f fd
local macro_rules | `(tactic| walk_at "rdc") => `(tactic| (first
  | assumption | exact Or.inl ⟨by omega, by omega⟩ | exact Or.inr ⟨by omega, by omega⟩ | exact Or.inl ⟨by decide, by decide⟩ | exact Or.inr ⟨by decide, by decide⟩
  | (show (0 : Int) < _; omega) | (show (0 : Int) < _; decide) | decide | omega | exact ⟨by decide, by decide, by decide⟩ | exact ⟨by decide, by decide +kernel⟩ | decide +kernel))
local macro_rules | `(tactic| walk_at "rdh") => `(tactic| (first | assumption | exact upd_same))
local macro_rules | `(tactic| walk_at "rd1") => `(tactic| (first
  | (with_reducible refine Rd.var rfl ?_) | (with_reducible refine Rd.con ?_) | (with_reducible refine Rd.op ?_) | (with_reducible refine Rd.un ?_) | (with_reducible refine Rd.i0 ?_) | (with_reducible refine Rd.iu ?_)
  | (with_reducible refine Rd.nil ?_) | (with_reducible refine Rd.cons ?_) | (with_reducible refine Rd.cb ?_) | (with_reducible refine Rd.asg ?_) | (with_reducible refine Rd.name ?_) | (with_reducible refine Rd.sub ?_) | (with_reducible refine Rd.par ?_) | (with_reducible refine Rd.p2 ?_) | (with_reducible refine Rd.sl ?_) | (with_reducible refine Rd.noPart ?_) | (with_reducible refine Rd.part ?_) | (with_reducible refine Rd.int_ ?_) | (with_reducible refine Rd.seq ?_)
  | (with_reducible refine Rd.ret ?_) | (with_reducible refine Rd.retN ?_) | (with_reducible refine Rd.nxt ?_) | (with_reducible refine Rd.tst ?_) | (with_reducible refine Rd.tb_ ?_) | (with_reducible refine Rd.tnot ?_)
  | (with_reducible refine Rd.tor ?_) | (with_reducible refine Rd.tand ?_) | (with_reducible refine Rd.ifs ?_) | (with_reducible refine Rd.ife ?_) | (with_reducible refine Rd.lst ?_) | (with_reducible refine Rd.tup ?_)
  | (with_reducible refine Rd.int1 ?_) | (with_reducible refine Rd.bl ?_) | (with_reducible refine Rd.call ?_)
  | (with_reducible refine Rd.mx ?_) | (with_reducible refine Rd.bits ?_) | (with_reducible refine Rd.forR ?_) | (with_reducible refine Rd.forL ?_) | (with_reducible refine Rd.lcR ?_) | (with_reducible refine Rd.lcL ?_)
  | ((with_reducible refine' Rd.ixLT ?rh ?ra ?_); (case rh => walk_at "rdh"); (case ra => rfl))
  | ((with_reducible refine' Rd.setL ?rh ?ra ?_); (case rh => walk_at "rdh"); (case ra => rfl))
  | ((with_reducible refine Rd.ic ?rc ?_); (case rc => walk_at "rdc"))))
local macro_rules | `(tactic| walk_at "rd") => `(tactic| (repeat (walk_at "rd1")))


/-! ### the draws -/
section
variable {X : Cx}
theorem op_powX : OpR X (binaryOp .Pow) (rI (fun i j => 0 ≤ j ∧ (Builtin.Int.intBits i : Int) * j ≤ 2 ^ 27) fun i j => .int (i ^ j.toNat)) := opI fun _ _ _ _ _ _ _ hc q => pow_int hc.1 hc.2 q
end
structure TxtD (mg : Str → Option Value) : Prop where
  m_len : mg "len" = none
  m_int : mg "int" = none
  m_max : mg "max" = none
  m_range : mg "range" = none
/-- the numbers of a generator: the digits that are left, the seed, the count -/
def GenOk (a b c : Int) : Prop := 0 ≤ a ∧ 0 ≤ b ∧ b < 2147483647 ∧ 0 ≤ c ∧ c ≤ 2 ^ 40
abbrev s_law_cell : Stmt := top 15
abbrev N_law_cell : List Str := ["script", "index"]
theorem sc_law_cell : FnScope N_law_cell ["script", "index"] (defScope s_law_cell) := ⟨rfl, rfl, rfl, by decide +kernel, rfl, by decide +kernel, by decide +kernel⟩
abbrev s_law_hash : Stmt := top 16
abbrev N_law_hash : List Str := ["seed", "index", "mixed"]
theorem sc_law_hash : FnScope N_law_hash ["seed", "index"] (defScope s_law_hash) := ⟨rfl, rfl, rfl, by decide +kernel, rfl, by decide +kernel, by decide +kernel⟩
abbrev s_law_generator : Stmt := top 17
abbrev N_law_generator : List Str := ["script", "index", "seed"]
theorem sc_law_generator : FnScope N_law_generator ["script", "index"] (defScope s_law_generator) := ⟨rfl, rfl, rfl, by decide +kernel, rfl, by decide +kernel, by decide +kernel⟩
abbrev s_law_random : Stmt := top 18
abbrev N_law_random : List Str := ["generator", "bound", "drawn", "turn"]
theorem sc_law_random : FnScope N_law_random ["generator", "bound"] (defScope s_law_random) := ⟨rfl, rfl, rfl, by decide +kernel, rfl, by decide +kernel, by decide +kernel⟩
def sp_cell (K : PySem.W.Frag) : Sp := fun vs H Q _ => ∃ (a : Addr) (ns : List Int) (k : Nat), vs = [.ref a, .int (k : Int)] ∧ SqL K H a (ns.map V.int) ∧ ∀ n : Int, Q (.int n) H
def sp_hash : Sp := fun vs H Q _ => ∃ (a i : Int), vs = [.int a, .int i] ∧ 0 ≤ a ∧ a < 2147483647 ∧ 0 ≤ i ∧ i ≤ 2 ^ 41 ∧ ∀ n : Int, Q (.int n) H
def sp_generator (K : PySem.W.Frag) : Sp := fun vs H Q _ => ∃ (a : Addr) (ns : List Int) (k : Nat), vs = [.ref a, .int (k : Int)] ∧ SqL K H a (ns.map V.int) ∧ k ≤ 100 ∧
  ∀ (p : Addr) (x y : Int), H p = none → GenOk x y (1000 * (k : Int)) → Q (.ref p) (upd H p (.lst [.int x, .int y, .int (1000 * (k : Int))]))
/-- a draw: below the bound; the list is written -/
def sp_random : Sp := fun vs H Q _ => ∃ (g : Addr) (x y z m : Int), vs = [.ref g, .int m] ∧ H g = some (.lst [.int x, .int y, .int z]) ∧ GenOk x y z ∧ 0 < m ∧ m < 2 ^ 60 ∧
  ∀ (r x' z' : Int), 0 ≤ r → r < m → 0 ≤ x' → z ≤ z' → z' ≤ z + 4 → Q (.int r) (upd H g (.lst [.int x', .int y, .int z']))
section
variable {P : Program} {w : World} {K : PySem.W.Frag} {mg : Str → Option Value} {base : Heap} {f f_c f_h : Addr} {fd fd_c fd_h : FuncData}
theorem ok_cell (F : FnP K "_law_cell" s_law_cell f fd) (T : TxtD mg) : FnOk P w K mg base CX0 1 f fd ["script", "index"] (sp_cell K) := by
  refine F.ok sc_law_cell (fun vs H Q E h => ?_) (fun cdv A outer s H vs Q E hr h => ?_)
  · obtain ⟨a, ns, k, rfl, _⟩ := h
    rfl
  obtain ⟨a, ns, k, rfl, hS, hQ⟩ := h
  refine ⟨_, PSs.nox (pss_cons (ps_if (pt_cmpR op_lt (pv 1) (pe_callB (show CallR _ (.builtin "len") (Rd.rLn K) from Rd.c_len) (by rfl) T.m_len boot_len (pa_cons (pv 0) pa_nil)) (nomark _)) (pss_one (ps_ret (pe_ix (show IxR _ (rIxL K) from ix_list) (pv 0) (pv 1) (fun _ _ => rfl)))) pss_nil)
    (pss_one (ps_ret pe_int))), ?_⟩
  walk_at "rd"
  refine Rd.lnL hS ?_
  walk_at "rd"
  refine Rd.br (fun c => ?_) (fun _ => ?_)
  · have c' : (k : Int) < ((ns.map V.int).length : Int) := of_decide_eq_true c
    rw [List.length_map] at c'
    have ck : k < ns.length := by omega
    walk_at "rd"
    exact Rd.ixL hS (atI_nat (by rw [List.getElem?_map, List.getElem?_eq_getElem ck]; rfl)) (hQ _)
  · exact hQ 0
theorem ok_hash (F : FnP K "_law_hash" s_law_hash f fd) (T : TxtD mg) : FnOk P w K mg base CX0 1 f fd ["seed", "index"] sp_hash := by
  refine F.ok sc_law_hash (fun vs H Q E h => ?_) (fun cdv A outer s H vs Q E hr h => ?_)
  · obtain ⟨a, i, rfl, _⟩ := h
    rfl
  obtain ⟨a, i, rfl, h1, h2, h3, h4, hQ⟩ := h
  refine ⟨_, PSs.nox (pss_cons (ps_set (i := 2) sc_law_hash.nd rfl (by first | exact Or.inl rfl | exact Or.inr rfl) (pe_op op_mod (pe_callTy Rd.c_int (by rfl) T.m_int (by decide +kernel) (pa_cons (pe_op op_add (pe_op op_add (pe_op op_add (pe_op op_mul (pv 0) pe_int) (pe_op op_mul (pe_op op_mul pe_int (pv 1)) (pv 1))) (pv 1)) pe_int) pa_nil)) pe_int))
    (pss_cons (ps_set (i := 2) sc_law_hash.nd rfl (by first | exact Or.inl rfl | exact Or.inr rfl) (pe_op op_mod (pe_callTy Rd.c_int (by rfl) T.m_int (by decide +kernel) (pa_cons (pe_op op_add (pe_op op_mul (pv 2) (pv 2)) pe_int) pa_nil)) pe_int))
    (pss_one (ps_ret (pe_op op_mod (pe_callTy Rd.c_int (by rfl) T.m_int (by decide +kernel) (pa_cons (pe_op op_mul (pv 2) pe_int) pa_nil)) pe_int))))), ?_⟩
  walk_at "rd"
  exact hQ _
theorem ok_generator (F : FnP K "_law_generator" s_law_generator f fd) (F_c : FnP K "_law_cell" s_law_cell f_c fd_c) (g_law_cell : mg "_law_cell" = some (.ref f_c)) (T : TxtD mg) : FnOk P w K mg base CX0 2 f fd ["script", "index"] (sp_generator K) := by
  have G_law_cell : FnOk P w K mg base CX0 1 f_c fd_c ["script", "index"] (sp_cell K) := ok_cell F_c T
  have b_law_cell : Binds K fd_c ["script", "index"] [] := F_c.bindsN fun _ _ _ _ _ _ us hl => match us, hl with | [_, _], _ => rfl
  have k_law_cell := F_c.kp
  refine F.ok sc_law_generator (fun vs H Q E h => ?_) (fun cdv A outer s H vs Q E hr h => ?_)
  · obtain ⟨a, ns, k, rfl, _⟩ := h
    rfl
  obtain ⟨a, ns, k, rfl, hS, hk, hQ⟩ := h
  refine ⟨_, PSs.nox (pss_cons (ps_set (i := 2) sc_law_generator.nd rfl (by first | exact Or.inl rfl | exact Or.inr rfl) (pe_call G_law_cell (hr.mono (by decide)) rfl g_law_cell k_law_cell b_law_cell .nil pass0 (pa_cons (pv 0) (pa_cons (pv 1) pa_nil))))
    (pss_one (ps_ret (pe_lst (pa_cons (pe_op op_mod (pe_callTy Rd.c_int (by rfl) T.m_int (by decide +kernel) (pa_cons (pe_callB (Rd.c_max rfl) (by rfl) T.m_max (by decide +kernel) (pa_cons (pe_op op_sub (pv 2) (pe_op op_pow pe_int pe_int)) (pa_cons pe_int pa_nil))) pa_nil)) (pe_op op_powX (pe_op op_pow pe_int pe_int) pe_int)) (pa_cons (pe_op op_mod (pe_callTy Rd.c_int (by rfl) T.m_int (by decide +kernel) (pa_cons (pv 2) pa_nil)) pe_int) (pa_cons (pe_op op_mul pe_int (pv 1)) pa_nil))))))), ?_⟩
  walk_at "rd"
  refine ⟨a, ns, k, rfl, hS, fun n => ?_⟩
  walk_at "rd"
  refine Rd.mkL fun p hp => ?_
  have e1 := Int.emod_nonneg n (show (2147483647 : Int) ≠ 0 by decide)
  have e2 := Int.emod_lt_of_pos n (show (0 : Int) < 2147483647 by decide)
  exact hQ p _ _ hp ⟨Int.emod_nonneg _ (by decide +kernel), e1, e2, by omega, by omega⟩
theorem ok_random (F : FnP K "_law_random" s_law_random f fd) (F_h : FnP K "_law_hash" s_law_hash f_h fd_h) (g_law_hash : mg "_law_hash" = some (.ref f_h)) (T : TxtD mg) : FnOk P w K mg base CX0 2 f fd ["generator", "bound"] sp_random := by
  have G_law_hash : FnOk P w K mg base CX0 1 f_h fd_h ["seed", "index"] sp_hash := ok_hash F_h T
  have b_law_hash : Binds K fd_h ["seed", "index"] [] := F_h.bindsN fun _ _ _ _ _ _ us hl => match us, hl with | [_, _], _ => rfl
  have k_law_hash := F_h.kp
  refine F.ok sc_law_random (fun vs H Q E h => ?_) (fun cdv A outer s H vs Q E hr h => ?_)
  · obtain ⟨g, x, y, z, m, rfl, _⟩ := h
    rfl
  obtain ⟨g, x, y, z, m, rfl, hg, ⟨h1, h2, h3, h4, h5⟩, hm, hm2, hQ⟩ := h
  have hmn : m.natAbs < 2 ^ 60 := by omega
  have hdw : ∀ i, CDivW i m := fun i => wide_div (b := 60) hm hmn (by decide) (by decide)
  have hd30 : ∀ i, CDivW i 30 := fun i => wide_div (b := 5) (by decide) (by decide) (by decide) (by decide)
  have em := Int.emod_nonneg x (show m ≠ 0 by omega)
  have el := Int.emod_lt_of_pos x hm
  have ed := Int.ediv_nonneg h1 (Int.le_of_lt hm)
  have hbits := PyProof.Rows.intBits_le hmn
  refine ⟨_, PSs.nox (pss_cons (ps_if (pt_cmpR op_gt (pe_ix (show IxR _ (rIxL K) from ix_list) (pv 0) pe_int (fun _ _ => rfl)) pe_int (nomark _)) (pss_cons (ps_set (i := 2) sc_law_random.nd rfl (by first | exact Or.inl rfl | exact Or.inr rfl) (pe_op op_mod (pe_callTy Rd.c_int (by rfl) T.m_int (by decide +kernel) (pa_cons (pe_ix (show IxR _ (rIxL K) from ix_list) (pv 0) pe_int (fun _ _ => rfl)) pa_nil)) (pv 1)))
    (pss_cons (ps_asg (pe_op op_fdivW (pe_ix (show IxR _ (rIxL K) from ix_list) (pv 0) pe_int (fun _ _ => rfl)) (pv 1)) (pg_sub (pv 0) pe_int set_list))
    (pss_one (ps_ret (pv 2))))) pss_nil)
    (pss_cons (ps_set (i := 2) sc_law_random.nd rfl (by first | exact Or.inl rfl | exact Or.inr rfl) pe_int)
    (pss_cons (ps_for PassesOwn.never rfl (pi_range1 (by rfl) T.m_range (pa_cons (pe_op op_add pe_int (pe_op op_fdivW (pe_bits (pv 1)) pe_int)) pa_nil)) (pg_name (i := 3) sc_law_random.nd rfl (by first | exact Or.inl rfl | exact Or.inr rfl)) (pss_cons (ps_asg (pe_op op_add (pe_ix (show IxR _ (rIxL K) from ix_list) (pv 0) pe_int (fun _ _ => rfl)) pe_int) (pg_sub (pv 0) pe_int set_list))
    (pss_one (ps_set (i := 2) sc_law_random.nd rfl (by first | exact Or.inl rfl | exact Or.inr rfl) (pe_op op_add (pe_op op_mul (pv 2) pe_int) (pe_call G_law_hash (hr.mono (by decide)) rfl g_law_hash k_law_hash b_law_hash .nil pass0 (pa_cons (pe_ix (show IxR _ (rIxL K) from ix_list) (pv 0) pe_int (fun _ _ => rfl)) (pa_cons (pe_ix (show IxR _ (rIxL K) from ix_list) (pv 0) pe_int (fun _ _ => rfl)) pa_nil))))))))
    (pss_one (ps_ret (pe_op op_mod (pe_callTy Rd.c_int (by rfl) T.m_int (by decide +kernel) (pa_cons (pv 2) pa_nil)) (pv 1))))))), ?_⟩
  walk_at "rd"
  refine Rd.br (fun c => ?_) (fun _ => ?_)
  · walk_at "rd"
    refine Rd.ic (hdw _) ?_
    walk_at "rd"
    exact hQ _ _ _ em el ed (Int.le_refl _) (by omega)
  · walk_at "rd"
    have k3 : (Builtin.Int.intBits m : Int) / 30 ≤ 2 := by omega
    have k0 : (0 : Int) ≤ (Builtin.Int.intBits m : Int) / 30 := by omega
    refine Rd.i1 (by omega) (by omega) ?_
    have us : upd H g (.lst [.int x, .int y, .int (z + (0 : Nat))]) = H := by
      funext b
      unfold upd
      split
      · rename_i e; rw [e, hg]; simp
      · rfl
    refine Rd.byR (fun i σ H' => ∃ (d : Int) (t : Option V), σ = [some (.ref g), some (.int m), some (.int d), t] ∧ H' = upd H g (.lst [.int x, .int y, .int (z + (i : Nat))])) ⟨0, none, rfl, us.symm⟩ (fun i σ H' hi h => ?_) (fun σ H' h => ?_)
    · obtain ⟨d, t, rfl, rfl⟩ := h
      have hi2 : i ≤ 2 := by omega
      walk_at "rd"
      refine ⟨_, _, rfl, h2, h3, by omega, by omega, fun n => ?_⟩
      walk_at "rd"
      refine ⟨_, _, rfl, ?_⟩
      rw [upd_upd, Int.natCast_succ, Int.add_assoc]
      rfl
    · obtain ⟨d, t, rfl, rfl⟩ := h
      walk_at "rd"
      exact hQ _ _ _ (Int.emod_nonneg _ (by omega)) (Int.emod_lt_of_pos _ hm) h1 (by omega) (by omega)
end

end K1
set_option Elab.async false
set_option linter.all false
set_option maxRecDepth 100000
set_option maxHeartbeats 4000000
/-! the law's errors: what kind one is; the eleven made by position, by name, without -/
namespace K1
open PySem PySem.Spec PyProof.Rows L2 Gd Er
local macro_rules | `(tactic| walk_at "rdc") => `(tactic| (first
  | assumption | exact Or.inl ⟨by omega, by omega⟩ | exact Or.inr ⟨by omega, by omega⟩ | exact Or.inl ⟨by decide, by decide⟩ | exact Or.inr ⟨by decide, by decide⟩
  | (show (0 : Int) < _; omega) | (show (0 : Int) < _; decide) | decide | omega | exact ⟨by decide, by decide, by decide⟩ | exact ⟨by decide, by decide +kernel⟩ | decide +kernel))
local macro_rules | `(tactic| walk_at "rdh") => `(tactic| (first | assumption | exact upd_same))
local macro_rules | `(tactic| walk_at "rd1") => `(tactic| (first
  | (with_reducible refine Rd.var rfl ?_) | (with_reducible refine Rd.con ?_) | (with_reducible refine Rd.op ?_) | (with_reducible refine Rd.un ?_) | (with_reducible refine Rd.i0 ?_) | (with_reducible refine Rd.iu ?_)
  | (with_reducible refine Rd.nil ?_) | (with_reducible refine Rd.cons ?_) | (with_reducible refine Rd.cb ?_) | (with_reducible refine Rd.asg ?_) | (with_reducible refine Rd.name ?_) | (with_reducible refine Rd.sub ?_) | (with_reducible refine Rd.par ?_) | (with_reducible refine Rd.p2 ?_) | (with_reducible refine Rd.sl ?_) | (with_reducible refine Rd.noPart ?_) | (with_reducible refine Rd.part ?_) | (with_reducible refine Rd.int_ ?_) | (with_reducible refine Rd.seq ?_)
  | (with_reducible refine Rd.ret ?_) | (with_reducible refine Rd.retN ?_) | (with_reducible refine Rd.nxt ?_) | (with_reducible refine Rd.tst ?_) | (with_reducible refine Rd.tb_ ?_) | (with_reducible refine Rd.tnot ?_)
  | (with_reducible refine Rd.tor ?_) | (with_reducible refine Rd.tand ?_) | (with_reducible refine Rd.ifs ?_) | (with_reducible refine Rd.ife ?_) | (with_reducible refine Rd.lst ?_) | (with_reducible refine Rd.tup ?_)
  | (with_reducible refine Rd.int1 ?_) | (with_reducible refine Rd.bl ?_) | (with_reducible refine Rd.call ?_)
  | (with_reducible refine Rd.mx ?_) | (with_reducible refine Rd.bits ?_) | (with_reducible refine Rd.forR ?_) | (with_reducible refine Rd.forL ?_) | (with_reducible refine Rd.lcR ?_) | (with_reducible refine Rd.lcL ?_)
  | ((with_reducible refine' Rd.ixLT ?rh ?ra ?_); (case rh => walk_at "rdh"); (case ra => rfl))
  | ((with_reducible refine' Rd.setL ?rh ?ra ?_); (case rh => walk_at "rdh"); (case ra => rfl))
  | ((with_reducible refine Rd.ic ?rc ?_); (case rc => walk_at "rdc"))))
local macro_rules | `(tactic| walk_at "rd") => `(tactic| (repeat (walk_at "rd1")))

/-! ### steps of readings: new lists, lists put together -/
section
variable {H : Hp} {Q : VK} {xs zs : List V} {l b : Addr}
theorem same_upd {p : Addr} {o : HO} (h : H p = none) : Same H (upd H p o) := fun b u e => (upd_ne (ne_of_none e h)).trans e
theorem same_none {H' : Hp} {p : Addr} (s : Same H H') (h : H' p = none) : H p = none := by
  cases q : H p with
  | none => rfl
  | some o => rw [s p o q] at h; cases h
theorem mkLs (q : ∀ p H', H p = none → Same H H' → H' p = some (.lst xs) → Q (.ref p) H') (h : xs.length ≤ 1000 := by exact Nat.le_of_ble_eq_true rfl) : Rd.newL Q xs H := Rd.mkL (fun p hp => q p _ hp (same_upd hp) upd_same) h
theorem mkTs (q : ∀ p H', H p = none → Same H H' → H' p = some (.tup xs) → Q (.ref p) H') (h : xs.length ≤ 1000 := by exact Nat.le_of_ble_eq_true rfl) : Rd.newT Q xs H := Rd.mkT (fun p hp => q p _ hp (same_upd hp) upd_same) h
theorem catL (hx : H l = some (.lst xs)) (hz : H b = some (.lst zs)) (q : ∀ p H', H p = none → Same H H' → H' p = some (.lst (xs ++ zs)) → Q (.ref p) H') (h : xs.length + zs.length ≤ 1000 := by exact Nat.le_of_ble_eq_true rfl) : rCat (.ref l) (.ref b) H Q :=
  ⟨l, b, xs, zs, rfl, rfl, hx, hz, Rd.szd h, fun p hp => q p _ hp (same_upd hp) upd_same⟩
end

/-- an error of the class at C stands at a -/
def IsAt (H : Hp) (a C : Addr) : Prop := H a = some (exo a C none) ∨ ∃ d fs, H a = some (exo a C (some d)) ∧ H d = some (exd d fs)
theorem IsAt.same {H H' : Hp} {a C : Addr} (s : Same H H') (e : IsAt H a C) : IsAt H' a C := by
  rcases e with e | ⟨d, fs, h1, h2⟩
  · exact .inl (s _ _ e)
  · exact .inr ⟨d, fs, s _ _ h1, s _ _ h2⟩
/-- the field of an error class, by the class's number -/
def fld (k : Nat) : Str := if k < 8 then "value" else "name"
structure ErrsT (P : Program) (K : PySem.W.Frag) (mg : Str → Option Value) (Cs fI : Nat → Addr) (R : Addr) : Prop where
  g_InvalidNumber : mg "InvalidNumber" = some (.ref (Cs 0))
  g_InvalidList : mg "InvalidList" = some (.ref (Cs 1))
  g_InvalidItem : mg "InvalidItem" = some (.ref (Cs 2))
  g_InvalidWord : mg "InvalidWord" = some (.ref (Cs 3))
  g_InvalidProgram : mg "InvalidProgram" = some (.ref (Cs 4))
  g_InvalidPlace : mg "InvalidPlace" = some (.ref (Cs 5))
  g_InvalidRun : mg "InvalidRun" = some (.ref (Cs 6))
  g_InvalidText : mg "InvalidText" = some (.ref (Cs 7))
  g_InvalidName : mg "InvalidName" = some (.ref (Cs 8))
  g_TakenName : mg "TakenName" = some (.ref (Cs 9))
  g_UnknownName : mg "UnknownName" = some (.ref (Cs 10))
  g_NothingToUndo : mg "NothingToUndo" = some (.ref (Cs 11))
  g_RightsError : mg "RightsError" = some (.ref R)
  e_InvalidNumber : ErrTxt P K (Cs 0) (fI 0) "value"
  e_InvalidList : ErrTxt P K (Cs 1) (fI 1) "value"
  e_InvalidItem : ErrTxt P K (Cs 2) (fI 2) "value"
  e_InvalidWord : ErrTxt P K (Cs 3) (fI 3) "value"
  e_InvalidProgram : ErrTxt P K (Cs 4) (fI 4) "value"
  e_InvalidPlace : ErrTxt P K (Cs 5) (fI 5) "value"
  e_InvalidRun : ErrTxt P K (Cs 6) (fI 6) "value"
  e_InvalidText : ErrTxt P K (Cs 7) (fI 7) "value"
  e_InvalidName : ErrTxt P K (Cs 8) (fI 8) "name"
  e_TakenName : ErrTxt P K (Cs 9) (fI 9) "name"
  e_UnknownName : ErrTxt P K (Cs 10) (fI 10) "name"
  x_NothingToUndo : OexC K (Cs 11)
  i_NothingToUndo : PySem.W.findIn K (.ref (Cs 11)) "__init__" = some (some (.builtin "ValueError.__init__"))
  exc : ∀ k, k < 12 → ExcC K (Cs k)
  cl : ∀ k, k < 11 → ErrCls K (Cs k) (fld k)
  kit : ∀ k j, k < 12 → j < 12 → PySem.W.kitOne K (.ref (Cs k)) (.ref (Cs j)) = some (decide (k = j))
  kitR : ∀ k, k < 12 → PySem.W.kitOne K (.ref (Cs k)) (.ref R) = some true
  kitV : ∀ k, k < 12 → PySem.W.kitOne K (.ref (Cs k)) (.type "ValueError") = some true
  m_super : mg "super" = none
  m_isinstance : mg "isinstance" = none
  m_ValueError : mg "ValueError" = none
  m_list : mg "list" = none
  m_dict : mg "dict" = none
  m_repr : mg "repr" = none
  m_range : mg "range" = none

abbrev s_law_kinds : Stmt := top 19
abbrev N_law_kinds : List Str := ["error", "classes", "at"]
theorem sc_law_kinds : FnScope N_law_kinds ["error"] (defScope s_law_kinds) := ⟨rfl, rfl, rfl, by decide +kernel, rfl, by decide +kernel, by decide +kernel⟩
abbrev s_law_placed : Stmt := top 21
abbrev N_law_placed : List Str := ["given", "found"]
theorem sc_law_placed : FnScope N_law_placed ["given"] (defScope s_law_placed) := ⟨rfl, rfl, rfl, by decide +kernel, rfl, by decide +kernel, by decide +kernel⟩
abbrev s_law_named : Stmt := top 22
abbrev N_law_named : List Str := ["given", "found"]
theorem sc_law_named : FnScope N_law_named ["given"] (defScope s_law_named) := ⟨rfl, rfl, rfl, by decide +kernel, rfl, by decide +kernel, by decide +kernel⟩
abbrev s_law_bare : Stmt := top 23
abbrev N_law_bare : List Str := ["found"]
theorem sc_law_bare : FnScope N_law_bare [] (defScope s_law_bare) := ⟨rfl, rfl, rfl, by decide +kernel, rfl, by decide +kernel, by decide +kernel⟩
section
variable {P : Program} {w : World} {K : PySem.W.Frag} {mg : Str → Option Value} {base : Heap} {f : Addr} {fd : FuncData} {Cs fI : Nat → Addr} {R : Addr}
section
variable {H : Hp} {Q : VK} {a : Addr} {k : Nat}
theorem is1 (T : ErrsT P K mg Cs fI R) (hk : k < 12) (h : IsAt H a (Cs k)) {j : Nat} (q : Q (.bl (decide (k = j))) H) (hj : j < 12 := by decide) : rIsErr K [.ref a, .ref (Cs j)] H Q :=
  ⟨a, Cs k, _, _, _, rfl, T.exc k hk, h, .own _, T.kit k j hk hj, q⟩
theorem isR (T : ErrsT P K mg Cs fI R) (hk : k < 12) (h : IsAt H a (Cs k)) (q : Q (.bl true) H) : rIsErr K [.ref a, .ref R] H Q := ⟨a, Cs k, _, _, _, rfl, T.exc k hk, h, .own _, T.kitR k hk, q⟩
theorem isV (T : ErrsT P K mg Cs fI R) (hk : k < 12) (h : IsAt H a (Cs k)) (q : Q (.bl true) H) : rIsErr K [.ref a, .ty "ValueError"] H Q := ⟨a, Cs k, _, _, _, rfl, T.exc k hk, h, .ty _, T.kitV k hk, q⟩
end
def sp_kinds (Cs : Nat → Addr) : Sp := fun vs H Q _ => ∃ (a : Addr) (k : Nat), vs = [.ref a] ∧ k < 12 ∧ IsAt H a (Cs k) ∧ ∀ p H', H p = none → Same H H' → H' p = some (.lst [.int (k : Int)]) → Q (.ref p) H'
theorem ok_kinds (F : FnP K "_law_kinds" s_law_kinds f fd) (T : ErrsT P K mg Cs fI R) : FnOk P w K mg base CX0 1 f fd ["error"] (sp_kinds Cs) := by
  refine F.ok sc_law_kinds (fun vs H Q E h => ?_) (fun cdv A outer s H vs Q E hr h => ?_)
  · obtain ⟨a, k, rfl, _⟩ := h
    rfl
  obtain ⟨a, k, rfl, hk, h, hQ⟩ := h
  refine ⟨_, PSs.nox (pss_cons (ps_set (i := 1) sc_law_kinds.nd rfl (by first | exact Or.inl rfl | exact Or.inr rfl) (pe_lst (pa_cons (pe_callB (show CallR _ (.builtin "isinstance") (rIsErr K) from call_isErr) (by rfl) T.m_isinstance (by decide +kernel) (pa_cons (pv 0) (pa_cons (pe_glob (v := .ref _) rfl T.g_InvalidNumber rfl) pa_nil))) (pa_cons (pe_callB (show CallR _ (.builtin "isinstance") (rIsErr K) from call_isErr) (by rfl) T.m_isinstance (by decide +kernel) (pa_cons (pv 0) (pa_cons (pe_glob (v := .ref _) rfl T.g_InvalidList rfl) pa_nil))) (pa_cons (pe_callB (show CallR _ (.builtin "isinstance") (rIsErr K) from call_isErr) (by rfl) T.m_isinstance (by decide +kernel) (pa_cons (pv 0) (pa_cons (pe_glob (v := .ref _) rfl T.g_InvalidItem rfl) pa_nil))) pa_nil)))))
    (pss_cons (ps_set (i := 1) sc_law_kinds.nd rfl (by first | exact Or.inl rfl | exact Or.inr rfl) (pe_op op_cat (pv 1) (pe_lst (pa_cons (pe_callB (show CallR _ (.builtin "isinstance") (rIsErr K) from call_isErr) (by rfl) T.m_isinstance (by decide +kernel) (pa_cons (pv 0) (pa_cons (pe_glob (v := .ref _) rfl T.g_InvalidWord rfl) pa_nil))) (pa_cons (pe_callB (show CallR _ (.builtin "isinstance") (rIsErr K) from call_isErr) (by rfl) T.m_isinstance (by decide +kernel) (pa_cons (pv 0) (pa_cons (pe_glob (v := .ref _) rfl T.g_InvalidProgram rfl) pa_nil))) pa_nil)))))
    (pss_cons (ps_set (i := 1) sc_law_kinds.nd rfl (by first | exact Or.inl rfl | exact Or.inr rfl) (pe_op op_cat (pv 1) (pe_lst (pa_cons (pe_callB (show CallR _ (.builtin "isinstance") (rIsErr K) from call_isErr) (by rfl) T.m_isinstance (by decide +kernel) (pa_cons (pv 0) (pa_cons (pe_glob (v := .ref _) rfl T.g_InvalidPlace rfl) pa_nil))) (pa_cons (pe_callB (show CallR _ (.builtin "isinstance") (rIsErr K) from call_isErr) (by rfl) T.m_isinstance (by decide +kernel) (pa_cons (pv 0) (pa_cons (pe_glob (v := .ref _) rfl T.g_InvalidRun rfl) pa_nil))) (pa_cons (pe_callB (show CallR _ (.builtin "isinstance") (rIsErr K) from call_isErr) (by rfl) T.m_isinstance (by decide +kernel) (pa_cons (pv 0) (pa_cons (pe_glob (v := .ref _) rfl T.g_InvalidText rfl) pa_nil))) pa_nil))))))
    (pss_cons (ps_set (i := 1) sc_law_kinds.nd rfl (by first | exact Or.inl rfl | exact Or.inr rfl) (pe_op op_cat (pv 1) (pe_lst (pa_cons (pe_callB (show CallR _ (.builtin "isinstance") (rIsErr K) from call_isErr) (by rfl) T.m_isinstance (by decide +kernel) (pa_cons (pv 0) (pa_cons (pe_glob (v := .ref _) rfl T.g_InvalidName rfl) pa_nil))) (pa_cons (pe_callB (show CallR _ (.builtin "isinstance") (rIsErr K) from call_isErr) (by rfl) T.m_isinstance (by decide +kernel) (pa_cons (pv 0) (pa_cons (pe_glob (v := .ref _) rfl T.g_TakenName rfl) pa_nil))) (pa_cons (pe_callB (show CallR _ (.builtin "isinstance") (rIsErr K) from call_isErr) (by rfl) T.m_isinstance (by decide +kernel) (pa_cons (pv 0) (pa_cons (pe_glob (v := .ref _) rfl T.g_UnknownName rfl) pa_nil))) pa_nil))))))
    (pss_cons (ps_if (PW.pt (pw_or (pt_not (pt_val (pe_callB (show CallR _ (.builtin "isinstance") (rIsErr K) from call_isErr) (by rfl) T.m_isinstance (by decide +kernel) (pa_cons (pv 0) (pa_cons (pe_glob (v := .ref _) rfl T.g_RightsError rfl) pa_nil))))) (pw_or1 (pt_not (pt_val (pe_callB (show CallR _ (.builtin "isinstance") (rIsErr K) from call_isErr) (by rfl) T.m_isinstance (by decide +kernel) (pa_cons (pv 0) (pa_cons (pe_bltn (v := .ty "ValueError") (by rfl) T.m_ValueError (by decide +kernel) rfl) pa_nil)))))))) (pss_one (ps_ret (pe_lst pa_nil))) pss_nil)
    (pss_one (ps_ret (pe_lc (own := [("at", 2)]) (g := gName 2) rfl sc_law_kinds.nd (pi_range1 (by rfl) T.m_range (pa_cons pe_int pa_nil)) (blkOk_by (N := N_law_kinds) (sc := defScope s_law_kinds) (by decide +kernel)) (fun _ _ _ _ _ => pg_name (i := 2) sc_law_kinds.nd rfl (Or.inl rfl)) (fun _ _ _ _ _ => (pts_one (pt_val (pe_ix (show IxR _ (rIxL K) from ix_list) (pe_op op_cat (pv 1) (pe_lst (pa_cons (pe_callB (show CallR _ (.builtin "isinstance") (rIsErr K) from call_isErr) (by rfl) T.m_isinstance (by decide +kernel) (pa_cons (pv 0) (pa_cons (pe_glob (v := .ref _) rfl T.g_NothingToUndo rfl) pa_nil))) pa_nil))) (pv 2) (fun _ _ => rfl))))) (fun _ _ _ _ _ => (pv 2)))))))))), ?_⟩
  walk_at "rd"
  refine is1 T hk h ?_
  walk_at "rd"
  refine is1 T hk h ?_
  walk_at "rd"
  refine is1 T hk h ?_
  walk_at "rd"
  refine mkLs fun p1 H1 n1 s1 e1 => ?_
  have h1 := h.same s1
  walk_at "rd"
  refine is1 T hk h1 ?_
  walk_at "rd"
  refine is1 T hk h1 ?_
  walk_at "rd"
  refine mkLs fun p2 H2 n2 s2 e2 => ?_
  have h2 := h1.same s2
  walk_at "rd"
  refine catL (s2 _ _ e1) e2 fun p3 H3 n3 s3 e3 => ?_
  have h3 := h2.same s3
  walk_at "rd"
  refine is1 T hk h3 ?_
  walk_at "rd"
  refine is1 T hk h3 ?_
  walk_at "rd"
  refine is1 T hk h3 ?_
  walk_at "rd"
  refine mkLs fun p4 H4 n4 s4 e4 => ?_
  have h4 := h3.same s4
  walk_at "rd"
  refine catL (s4 _ _ e3) e4 fun p5 H5 n5 s5 e5 => ?_
  have h5 := h4.same s5
  walk_at "rd"
  refine is1 T hk h5 ?_
  walk_at "rd"
  refine is1 T hk h5 ?_
  walk_at "rd"
  refine is1 T hk h5 ?_
  walk_at "rd"
  refine mkLs fun p6 H6 n6 s6 e6 => ?_
  have h6 := h5.same s6
  walk_at "rd"
  refine catL (s6 _ _ e5) e6 fun p7 H7 n7 s7 e7 => ?_
  have h7 := h6.same s7
  walk_at "rd"
  refine isR T hk h7 ?_
  walk_at "rd"
  refine Rd.brF rfl ?_
  walk_at "rd"
  refine isV T hk h7 ?_
  walk_at "rd"
  refine Rd.brF rfl ?_
  walk_at "rd"
  refine Rd.i1 (by decide) (by decide) fun D hD => ?_
  refine Rd.byCR (fun i H' => Same H7 H' ∧ H' D = some (.lst (if k < i then [.int (k : Int)] else []))) ⟨same_upd hD, upd_same⟩ (fun i H' hi h' => ?_) (fun H' h' => ?_)
  · obtain ⟨s8, e8⟩ := h'
    have hi : i < 12 := hi
    refine Rd.turnIf rfl ?_
    walk_at "rd"
    refine is1 T hk (h7.same s8) ?_
    walk_at "rd"
    refine mkLs fun p9 H9 n9 s9 e9 => ?_
    refine catL (s9 _ _ (s8 _ _ e7)) e9 fun p10 H10 n10 s10 e10 => ?_
    walk_at "rd"
    have e11 : H10 p10 = some (.lst ((List.range 12).map fun j => V.bl (decide (k = j)))) := e10
    refine Rd.ixL (v := .bl (decide (k = i))) (.inl (.inl e11)) ?_ ?_
    · rw [Int.zero_add]
      exact atI_nat (by rw [List.getElem?_map, List.getElem?_range hi]; rfl)
    walk_at "rd"
    have s12 : Same H7 H10 := (s8.trans s9).trans s10
    have eD := s10 _ _ (s9 _ _ e8)
    refine Rd.br (fun c => ?_) (fun c => ?_)
    · have c' : k = i := of_decide_eq_true c
      subst c'
      walk_at "rd"
      rw [if_neg (Nat.lt_irrefl k)] at eD
      refine Rd.acc eD (by decide) ⟨?_, ?_⟩
      · intro b o e
        refine (upd_ne ?_).trans (s12 b o e)
        exact ne_of_none e hD
      · rw [upd_same, if_pos (Nat.lt_succ_self k), Int.zero_add]
        rfl
    · have c' : k ≠ i := of_decide_eq_false c
      refine ⟨s12, ?_⟩
      rw [eD]
      by_cases y : k < i
      · rw [if_pos y, if_pos (by omega)]
      · rw [if_neg y, if_neg (by omega)]
  · obtain ⟨s8, e8⟩ := h'
    rw [if_pos (show k < Int.toNat 12 from hk)] at e8
    exact hQ D H' (same_none (((((((s1.trans s2).trans s3).trans s4).trans s5).trans s6).trans s7)) hD) (((((((s1.trans s2).trans s3).trans s4).trans s5).trans s6).trans s7).trans s8) e8
/-! ### errors made -/
/-- the expression gives v and leaves the heap -/
def Yields (te : TE) (σ : L2.St) (v : V) : Prop := ∀ H Q, Q v H → te σ H Q
theorem y_var {σ : L2.St} {n : Nat} {v : V} (h : σ[n]? = some (some v)) : Yields (tVar n) σ v := fun H Q q => ⟨v, h, q⟩
theorem y_con {σ : L2.St} {v : V} : Yields (tC v) σ v := fun H Q q => q
/-- errors of these classes, with v in their fields -/
def ErrsAt (H : Hp) (v : V) : List (Addr × Str) → List Addr → Prop
  | [], [] => True
  | c :: cs, a :: as => ErrAt H a c.1 c.2 v ∧ ErrsAt H v cs as
  | _, _ => False
theorem ErrsAt.same {H H' : Hp} {v : V} (s : Same H H') : ∀ {cs : List (Addr × Str)} {as : List Addr}, ErrsAt H v cs as → ErrsAt H' v cs as
  | [], [], _ => True.intro
  | _ :: _, _ :: _, h => ⟨h.1.same s, h.2.same s⟩
  | [], _ :: _, h => h.elim
  | _ :: _, [], h => h.elim
theorem ErrsAt.app {H : Hp} {v : V} {ds : List (Addr × Str)} {bs : List Addr} (g : ErrsAt H v ds bs) : ∀ {cs : List (Addr × Str)} {as : List Addr}, ErrsAt H v cs as → ErrsAt H v (cs ++ ds) (as ++ bs)
  | [], [], _ => g
  | _ :: _, _ :: _, h => ⟨h.1, g.app h.2⟩
  | [], _ :: _, h => h.elim
  | _ :: _, [], h => h.elim
theorem ErrsAt.len {H : Hp} {v : V} : ∀ {cs : List (Addr × Str)} {as : List Addr}, ErrsAt H v cs as → as.length = cs.length
  | [], [], _ => rfl
  | _ :: _, _ :: _, h => by rw [List.length_cons, List.length_cons, h.2.len]
  | [], _ :: _, h => h.elim
  | _ :: _, [], h => h.elim
theorem ErrsAt.get {H : Hp} {v : V} : ∀ {cs : List (Addr × Str)} {as : List Addr} (i : Nat) {c : Addr × Str} {a : Addr}, ErrsAt H v cs as → cs[i]? = some c → as[i]? = some a → ErrAt H a c.1 c.2 v
  | _ :: _, _ :: _, 0, _, _, h, e1, e2 => by cases e1; cases e2; exact h.1
  | _ :: cs, _ :: as, i + 1, _, _, h, e1, e2 => ErrsAt.get (cs := cs) (as := as) i h.2 e1 e2
  | [], [], _, _, _, _, e1, _ => nomatch e1
  | [], _ :: _, _, _, _, h, _, _ => h.elim
  | _ :: _, [], _, _, _, h, _, _ => h.elim
/-- the arguments give errors of these classes -/
def AllE (tr : TA) (σ : L2.St) (cs : List (Addr × Str)) (v : V) : Prop := ∀ H QA, (∀ as H', Same H H' → ErrsAt H' v cs as → QA (as.map V.ref) H') → tr σ H QA
theorem AllE.nil {σ : L2.St} {v : V} : AllE tNil σ [] v := fun H QA q => q [] H (fun _ _ e => e) True.intro
theorem AllE.cons {te : TE} {tr : TA} {σ : L2.St} {C : Addr} {x : Str} {cs : List (Addr × Str)} {v : V} (y : Yields te σ v) (h : AllE tr σ cs v) : AllE (tCons (tErr C x te) tr) σ ((C, x) :: cs) v := fun H QA q =>
  y H _ fun a d ha hd ne => h _ _ fun as H' s e => q (a :: as) H' ((errH_same ha hd).trans s) ⟨(errH_at ne).same s, e⟩
theorem AllE.lst {tr : TA} {σ : L2.St} {cs : List (Addr × Str)} {v : V} {H : Hp} {Q : VK} (h : AllE tr σ cs v) (q : ∀ p as H', H p = none → Same H H' → H' p = some (.lst (as.map V.ref)) → ErrsAt H' v cs as → Q (.ref p) H')
    (n : cs.length ≤ 1000 := by exact Nat.le_of_ble_eq_true rfl) : tLst tr σ H Q := by
  refine Rd.lst (h _ _ fun as H1 s1 e1 => mkLs (fun p H2 n2 s2 e2 => ?_) (by rw [List.length_map, e1.len]; exact n))
  exact q p as H2 (same_none s1 n2) (s1.trans s2) e2 (e1.same s2)
theorem catE {H : Hp} {Q : VK} {l b : Addr} {xs zs : List Addr} {cs ds : List (Addr × Str)} {v : V} (hx : H l = some (.lst (xs.map V.ref))) (hz : H b = some (.lst (zs.map V.ref))) (h1 : ErrsAt H v cs xs) (h2 : ErrsAt H v ds zs)
    (q : ∀ p H', H p = none → Same H H' → H' p = some (.lst ((xs ++ zs).map V.ref)) → ErrsAt H' v (cs ++ ds) (xs ++ zs) → Q (.ref p) H') (n : cs.length + ds.length ≤ 1000 := by exact Nat.le_of_ble_eq_true rfl) : rCat (.ref l) (.ref b) H Q :=
  catL hx hz (fun p H' np s e => q p H' np s (by rw [List.map_append]; exact e) (ErrsAt.app (h2.same s) (h1.same s))) (by rw [List.length_map, List.length_map, h1.len, h2.len]; exact n)
/-- the eleven classes -/
def csAll (Cs : Nat → Addr) : List (Addr × Str) := [(Cs 0, "value"), (Cs 1, "value"), (Cs 2, "value"), (Cs 3, "value"), (Cs 4, "value"), (Cs 5, "value"), (Cs 6, "value"), (Cs 7, "value"), (Cs 8, "name"), (Cs 9, "name"), (Cs 10, "name")]
def Gives (Cs : Nat → Addr) (v : V) (H : Hp) (Q : VK) : Prop := ∀ p as H', H p = none → Same H H' → H' p = some (.lst (as.map V.ref)) → ErrsAt H' v (csAll Cs) as → Q (.ref p) H'
def sp_errs (Cs : Nat → Addr) : Sp := fun vs H Q _ => ∃ v, vs = [v] ∧ Gives Cs v H Q
def sp_bare (Cs : Nat → Addr) : Sp := fun vs H Q _ => vs = [] ∧ Gives Cs .non H Q
theorem ok_placed (F : FnP K "_law_placed" s_law_placed f fd) (T : ErrsT P K mg Cs fI R) : FnOk P w K mg base CX0 1 f fd ["given"] (sp_errs Cs) := by
  refine F.ok sc_law_placed (fun vs H Q E h => ?_) (fun cdv A outer s H vs Q E hr h => ?_)
  · obtain ⟨v, rfl, _⟩ := h
    rfl
  obtain ⟨v, rfl, hQ⟩ := h
  refine ⟨_, PSs.nox (pss_cons (ps_set (i := 1) sc_law_placed.nd rfl (by first | exact Or.inl rfl | exact Or.inr rfl) (pe_lst (pa_cons (pe_err T.e_InvalidNumber T.m_super hr T.g_InvalidNumber rfl (pv 0)) (pa_cons (pe_err T.e_InvalidList T.m_super hr T.g_InvalidList rfl (pv 0)) (pa_cons (pe_err T.e_InvalidItem T.m_super hr T.g_InvalidItem rfl (pv 0)) (pa_cons (pe_err T.e_InvalidWord T.m_super hr T.g_InvalidWord rfl (pv 0)) pa_nil))))))
    (pss_cons (ps_set (i := 1) sc_law_placed.nd rfl (by first | exact Or.inl rfl | exact Or.inr rfl) (pe_op op_cat (pv 1) (pe_lst (pa_cons (pe_err T.e_InvalidProgram T.m_super hr T.g_InvalidProgram rfl (pv 0)) (pa_cons (pe_err T.e_InvalidPlace T.m_super hr T.g_InvalidPlace rfl (pv 0)) (pa_cons (pe_err T.e_InvalidRun T.m_super hr T.g_InvalidRun rfl (pv 0)) (pa_cons (pe_err T.e_InvalidText T.m_super hr T.g_InvalidText rfl (pv 0)) pa_nil)))))))
    (pss_one (ps_ret (pe_op op_cat (pv 1) (pe_lst (pa_cons (pe_err T.e_InvalidName T.m_super hr T.g_InvalidName rfl (pv 0)) (pa_cons (pe_err T.e_TakenName T.m_super hr T.g_TakenName rfl (pv 0)) (pa_cons (pe_err T.e_UnknownName T.m_super hr T.g_UnknownName rfl (pv 0)) pa_nil))))))))), ?_⟩
  refine Rd.seq (Rd.asg (AllE.lst (v := v) (AllE.cons (y_var rfl) (AllE.cons (y_var rfl) (AllE.cons (y_var rfl) (AllE.cons (y_var rfl) (AllE.nil))))) fun p1 as1 H1 n1 s1 l1 e1 => ?_))
  refine Rd.name (Rd.seq (Rd.asg (Rd.op (Rd.var rfl (AllE.lst (v := v) (AllE.cons (y_var rfl) (AllE.cons (y_var rfl) (AllE.cons (y_var rfl) (AllE.cons (y_var rfl) (AllE.nil))))) fun p2 as2 H2 n2 s2 l2 e2 => ?_)))))
  refine catE (s2 _ _ l1) l2 (e1.same s2) e2 fun p3 H3 n3 s3 l3 e3 => ?_
  refine Rd.name (Rd.ret (Rd.op (Rd.var rfl (AllE.lst (v := v) (AllE.cons (y_var rfl) (AllE.cons (y_var rfl) (AllE.cons (y_var rfl) (AllE.nil)))) fun p4 as4 H4 n4 s4 l4 e4 => ?_))))
  refine catE (s4 _ _ l3) l4 (e3.same s4) e4 fun p5 H5 n5 s5 l5 e5 => ?_
  exact hQ p5 _ H5 (same_none (((s1.trans s2).trans s3).trans s4) n5) ((((s1.trans s2).trans s3).trans s4).trans s5) l5 e5
theorem ok_named (F : FnP K "_law_named" s_law_named f fd) (T : ErrsT P K mg Cs fI R) : FnOk P w K mg base CX0 1 f fd ["given"] (sp_errs Cs) := by
  refine F.ok sc_law_named (fun vs H Q E h => ?_) (fun cdv A outer s H vs Q E hr h => ?_)
  · obtain ⟨v, rfl, _⟩ := h
    rfl
  obtain ⟨v, rfl, hQ⟩ := h
  refine ⟨_, PSs.nox (pss_cons (ps_set (i := 1) sc_law_named.nd rfl (by first | exact Or.inl rfl | exact Or.inr rfl) (pe_lst (pa_cons (pe_errK T.e_InvalidNumber T.m_super hr T.g_InvalidNumber rfl (pv 0)) (pa_cons (pe_errK T.e_InvalidList T.m_super hr T.g_InvalidList rfl (pv 0)) (pa_cons (pe_errK T.e_InvalidItem T.m_super hr T.g_InvalidItem rfl (pv 0)) (pa_cons (pe_errK T.e_InvalidWord T.m_super hr T.g_InvalidWord rfl (pv 0)) pa_nil))))))
    (pss_cons (ps_set (i := 1) sc_law_named.nd rfl (by first | exact Or.inl rfl | exact Or.inr rfl) (pe_op op_cat (pv 1) (pe_lst (pa_cons (pe_errK T.e_InvalidProgram T.m_super hr T.g_InvalidProgram rfl (pv 0)) (pa_cons (pe_errK T.e_InvalidPlace T.m_super hr T.g_InvalidPlace rfl (pv 0)) (pa_cons (pe_errK T.e_InvalidRun T.m_super hr T.g_InvalidRun rfl (pv 0)) pa_nil))))))
    (pss_cons (ps_set (i := 1) sc_law_named.nd rfl (by first | exact Or.inl rfl | exact Or.inr rfl) (pe_op op_cat (pv 1) (pe_lst (pa_cons (pe_errK T.e_InvalidText T.m_super hr T.g_InvalidText rfl (pv 0)) (pa_cons (pe_errK T.e_InvalidName T.m_super hr T.g_InvalidName rfl (pv 0)) (pa_cons (pe_errK T.e_TakenName T.m_super hr T.g_TakenName rfl (pv 0)) pa_nil))))))
    (pss_one (ps_ret (pe_op op_cat (pv 1) (pe_lst (pa_cons (pe_errK T.e_UnknownName T.m_super hr T.g_UnknownName rfl (pv 0)) pa_nil)))))))), ?_⟩
  refine Rd.seq (Rd.asg (AllE.lst (v := v) (AllE.cons (y_var rfl) (AllE.cons (y_var rfl) (AllE.cons (y_var rfl) (AllE.cons (y_var rfl) (AllE.nil))))) fun p1 as1 H1 n1 s1 l1 e1 => ?_))
  refine Rd.name (Rd.seq (Rd.asg (Rd.op (Rd.var rfl (AllE.lst (v := v) (AllE.cons (y_var rfl) (AllE.cons (y_var rfl) (AllE.cons (y_var rfl) (AllE.nil)))) fun p2 as2 H2 n2 s2 l2 e2 => ?_)))))
  refine catE (s2 _ _ l1) l2 (e1.same s2) e2 fun p3 H3 n3 s3 l3 e3 => ?_
  refine Rd.name (Rd.seq (Rd.asg (Rd.op (Rd.var rfl (AllE.lst (v := v) (AllE.cons (y_var rfl) (AllE.cons (y_var rfl) (AllE.cons (y_var rfl) (AllE.nil)))) fun p6 as6 H6 n6 s6 l6 e6 => ?_)))))
  refine catE (s6 _ _ l3) l6 (e3.same s6) e6 fun p7 H7 n7 s7 l7 e7 => ?_
  refine Rd.name (Rd.ret (Rd.op (Rd.var rfl (AllE.lst (v := v) (AllE.cons (y_var rfl) (AllE.nil)) fun p4 as4 H4 n4 s4 l4 e4 => ?_))))
  refine catE (s4 _ _ l7) l4 (e7.same s4) e4 fun p5 H5 n5 s5 l5 e5 => ?_
  exact hQ p5 _ H5 (same_none (((((s1.trans s2).trans s3).trans s6).trans s7).trans s4) n5) ((((((s1.trans s2).trans s3).trans s6).trans s7).trans s4).trans s5) l5 e5
theorem ok_bare (F : FnP K "_law_bare" s_law_bare f fd) (T : ErrsT P K mg Cs fI R) : FnOk P w K mg base CX0 1 f fd [] (sp_bare Cs) := by
  refine F.ok sc_law_bare (fun vs H Q E h => ?_) (fun cdv A outer s H vs Q E hr h => ?_)
  · obtain ⟨rfl, _⟩ := h
    rfl
  obtain ⟨rfl, hQ⟩ := h
  refine ⟨_, PSs.nox (pss_cons (ps_set (i := 0) sc_law_bare.nd rfl (by first | exact Or.inl rfl | exact Or.inr rfl) (pe_lst (pa_cons (pe_err0 T.e_InvalidNumber T.m_super hr T.g_InvalidNumber rfl) (pa_cons (pe_err0 T.e_InvalidList T.m_super hr T.g_InvalidList rfl) (pa_cons (pe_err0 T.e_InvalidItem T.m_super hr T.g_InvalidItem rfl) (pa_cons (pe_err0 T.e_InvalidWord T.m_super hr T.g_InvalidWord rfl) (pa_cons (pe_err0 T.e_InvalidProgram T.m_super hr T.g_InvalidProgram rfl) (pa_cons (pe_err0 T.e_InvalidPlace T.m_super hr T.g_InvalidPlace rfl) pa_nil))))))))
    (pss_one (ps_ret (pe_op op_cat (pv 0) (pe_lst (pa_cons (pe_err0 T.e_InvalidRun T.m_super hr T.g_InvalidRun rfl) (pa_cons (pe_err0 T.e_InvalidText T.m_super hr T.g_InvalidText rfl) (pa_cons (pe_err0 T.e_InvalidName T.m_super hr T.g_InvalidName rfl) (pa_cons (pe_err0 T.e_TakenName T.m_super hr T.g_TakenName rfl) (pa_cons (pe_err0 T.e_UnknownName T.m_super hr T.g_UnknownName rfl) pa_nil)))))))))), ?_⟩
  refine Rd.seq (Rd.asg (AllE.lst (v := .non) (AllE.cons y_con (AllE.cons y_con (AllE.cons y_con (AllE.cons y_con (AllE.cons y_con (AllE.cons y_con (AllE.nil))))))) fun p1 as1 H1 n1 s1 l1 e1 => ?_))
  refine Rd.name (Rd.ret (Rd.op (Rd.var rfl (AllE.lst (v := .non) (AllE.cons y_con (AllE.cons y_con (AllE.cons y_con (AllE.cons y_con (AllE.cons y_con (AllE.nil)))))) fun p4 as4 H4 n4 s4 l4 e4 => ?_))))
  refine catE (s4 _ _ l1) l4 (e1.same s4) e4 fun p5 H5 n5 s5 l5 e5 => ?_
  exact hQ p5 _ H5 (same_none (s1.trans s4) n5) ((s1.trans s4).trans s5) l5 e5
end
end K1
set_option Elab.async false
set_option linter.all false
set_option maxRecDepth 100000
set_option maxHeartbeats 4000000
/-! the law's check of eleven errors -/
namespace K1
open PySem PySem.Spec PyProof.Rows L2 Gd Er
local macro_rules | `(tactic| walk_at "rdc") => `(tactic| (first
  | assumption | exact Or.inl ⟨by omega, by omega⟩ | exact Or.inr ⟨by omega, by omega⟩ | exact Or.inl ⟨by decide, by decide⟩ | exact Or.inr ⟨by decide, by decide⟩
  | (show (0 : Int) < _; omega) | (show (0 : Int) < _; decide) | decide | omega | exact ⟨by decide, by decide, by decide⟩ | exact ⟨by decide, by decide +kernel⟩ | decide +kernel))
local macro_rules | `(tactic| walk_at "rdh") => `(tactic| (first | assumption | exact upd_same))
local macro_rules | `(tactic| walk_at "rd1") => `(tactic| (first
  | (with_reducible refine Rd.var rfl ?_) | (with_reducible refine Rd.con ?_) | (with_reducible refine Rd.op ?_) | (with_reducible refine Rd.un ?_) | (with_reducible refine Rd.i0 ?_) | (with_reducible refine Rd.iu ?_)
  | (with_reducible refine Rd.nil ?_) | (with_reducible refine Rd.cons ?_) | (with_reducible refine Rd.cb ?_) | (with_reducible refine Rd.asg ?_) | (with_reducible refine Rd.name ?_) | (with_reducible refine Rd.sub ?_) | (with_reducible refine Rd.par ?_) | (with_reducible refine Rd.p2 ?_) | (with_reducible refine Rd.sl ?_) | (with_reducible refine Rd.noPart ?_) | (with_reducible refine Rd.part ?_) | (with_reducible refine Rd.int_ ?_) | (with_reducible refine Rd.seq ?_)
  | (with_reducible refine Rd.ret ?_) | (with_reducible refine Rd.retN ?_) | (with_reducible refine Rd.nxt ?_) | (with_reducible refine Rd.tst ?_) | (with_reducible refine Rd.tb_ ?_) | (with_reducible refine Rd.tnot ?_)
  | (with_reducible refine Rd.tor ?_) | (with_reducible refine Rd.tand ?_) | (with_reducible refine Rd.ifs ?_) | (with_reducible refine Rd.ife ?_) | (with_reducible refine Rd.lst ?_) | (with_reducible refine Rd.tup ?_)
  | (with_reducible refine Rd.int1 ?_) | (with_reducible refine Rd.bl ?_) | (with_reducible refine Rd.call ?_)
  | (with_reducible refine Rd.mx ?_) | (with_reducible refine Rd.bits ?_) | (with_reducible refine Rd.forR ?_) | (with_reducible refine Rd.forL ?_) | (with_reducible refine Rd.lcR ?_) | (with_reducible refine Rd.lcL ?_)
  | ((with_reducible refine' Rd.ixLT ?rh ?ra ?_); (case rh => walk_at "rdh"); (case ra => rfl))
  | ((with_reducible refine' Rd.setL ?rh ?ra ?_); (case rh => walk_at "rdh"); (case ra => rfl))
  | ((with_reducible refine Rd.ic ?rc ?_); (case rc => walk_at "rdc"))))
local macro_rules | `(tactic| walk_at "rd") => `(tactic| (repeat (walk_at "rd1")))

theorem pe_errFldK {X : Cx} {K : PySem.W.Frag} {fld : Str} {e : Expr} {te : TE} {pos : Pos} (eK : X.K = K) (he : PE X e te) (hb : attributeBase e fld X.env (eval e X.env) = eval e X.env := by rfl) : PE X (.Attribute e fld pos) (tErrFld K fld te) := eK ▸ pe_errFld he hb
section
variable {K : PySem.W.Frag} {H H' : Hp}
theorem sqT_same (e : Same H H') {a : Addr} {xs : List V} (h : SqT K H a xs) : SqT K H' a xs := by
  rcases h with (h | ⟨o, h⟩) | h
  · exact .inl (.inl (e _ _ h))
  · exact .inl (.inr ⟨o, e _ _ h⟩)
  · exact .inr h
mutual
theorem Dq.same (e : Same H H') : ∀ (d : PyData) (v : V), Dq K H v d → Dq K H' v d
  | .none, _, h => by cases h; exact .non
  | .bool b, _, h => by cases h; exact .bl b
  | .int i, _, h => by cases h; exact .int i
  | .str x, _, h => by cases h; exact .str x
  | .list ds, _, h => by
    cases h with
    | lst hs ha => exact .lst (e.seq hs) (Dq.sameAll e ds _ ha)
  | .tuple ds, _, h => by
    cases h with
    | tup hs ha => exact .tup (sqT_same e hs) (Dq.sameAll e ds _ ha)
  | .dict qs, _, h => by
    cases h with
    | dct hs ha => exact .dct (e _ _ hs) (Dq.sameKv e qs _ ha)
theorem Dq.sameAll (e : Same H H') : ∀ (ds : List PyData) (vs : List V), DqAll K H vs ds → DqAll K H' vs ds
  | [], _, h => by cases h; exact .nil
  | d :: ds, _, h => by
    cases h with
    | cons h1 h2 => exact .cons (Dq.same e d _ h1) (Dq.sameAll e ds _ h2)
theorem Dq.sameKv (e : Same H H') : ∀ (qs : List (PyData × PyData)) (kvs : List (Key × V)), DqKv K H kvs qs → DqKv K H' kvs qs
  | [], _, h => by cases h; exact .nil
  | q :: qs, _, h => by
    cases h with
    | cons h1 h2 => exact .cons (Dq.same e _ _ h1) (Dq.sameKv e qs _ h2)
end
theorem dq_rep {v : V} {d : PyData} (h : Dq K H v d) : ∀ n : Nat, DqAll K H (List.replicate n v) (List.replicate n d)
  | 0 => .nil
  | n + 1 => .cons h (dq_rep h n)
theorem rows_dp : ∀ (ps : List Addr) (k : Nat), (∀ j p, ps[j]? = some p → H p = some (.lst [.int ((k + j : Nat) : Int)])) → DpAll K H (ps.map V.ref) ((List.range' k ps.length).map fun j : Nat => .list [.int (j : Int)])
  | [], _, _ => .nil
  | p :: ps, k, h => .cons (.lst (.inl (.inl (h 0 p rfl))) (.cons (.int _) .nil)) (rows_dp ps (k + 1) fun j q e => by
      rw [show k + 1 + j = k + (j + 1) by omega]
      exact h (j + 1) q e)
theorem rows_at {D : Addr} {ps : List Addr} (h : H D = some (.lst (ps.map V.ref))) (n : ps.length = 11) (hp : ∀ (j : Nat) p, ps[j]? = some p → H p = some (.lst [.int (j : Int)])) : Dp K H (.ref D) (.list ((List.range' 0 11).map fun j : Nat => .list [.int (j : Int)])) := by
  have r := rows_dp (K := K) ps 0 (fun j p e => by rw [Nat.zero_add]; exact hp j p e)
  rw [n] at r
  exact .lst (.inl (.inl h)) r
end
/-- data whose print is short -/
structure Good (d : PyData) : Prop where
  s : d.showable = true
  l : d.leavesShort 13 = true
  w : d.weight ≤ 1000
  p : d.depth ≤ 30
section
variable {d : PyData} (g : Good d)
include g
theorem good_all : ∀ n : Nat, PyData.showableAll (List.replicate n d) = true ∧ PyData.leavesShortAll 13 (List.replicate n d) = true ∧ PyData.weightAll (List.replicate n d) ≤ 1001 * n ∧ PyData.depthAll (List.replicate n d) ≤ 30
  | 0 => ⟨rfl, rfl, Nat.le_refl 0, Nat.zero_le 30⟩
  | n + 1 => by
    obtain ⟨h1, h2, h3, h4⟩ := good_all n
    have := g.w
    have := g.p
    refine ⟨?_, ?_, ?_, ?_⟩
    · show (PyData.showable d && PyData.showableAll (List.replicate n d)) = true
      rw [g.s, h1]; rfl
    · show (PyData.leavesShort 13 d && PyData.leavesShortAll 13 (List.replicate n d)) = true
      rw [g.l, h2]; rfl
    · show PyData.weight d + 1 + PyData.weightAll (List.replicate n d) ≤ _
      omega
    · show max (PyData.depth d) (PyData.depthAll (List.replicate n d)) ≤ 30
      omega
theorem good_list : (PyData.list (List.replicate 11 d)).showable = true ∧ (PyData.list (List.replicate 11 d)).depth ≤ 40 ∧ (PyData.list (List.replicate 11 d)).shown.length ≤ sizeLine := by
  obtain ⟨h1, h2, h3, h4⟩ := good_all g 11
  refine ⟨h1, ?_, PyData.shown_fits (B := 13) (by decide) (by decide) h2 ?_⟩
  · show PyData.depthAll (List.replicate 11 d) + 1 ≤ 40
    omega
  · show PyData.weightAll (List.replicate 11 d) ≤ 2 ^ 20
    have : (2 : Nat) ^ 20 = 1048576 := by decide
    omega
end

abbrev s_law_right : Stmt := top 20
abbrev N_law_right : List Str := ["errors", "given", "fields", "error", "at"]
theorem sc_law_right : FnScope N_law_right ["errors", "given"] (defScope s_law_right) := ⟨rfl, rfl, rfl, by decide +kernel, rfl, by decide +kernel, by decide +kernel⟩
theorem cs_get {Cs : Nat → Addr} {i : Nat} (h : i < 11) : (csAll Cs)[i]? = some (Cs i, fld i) := by
  match i, h with
  | 0, _ => rfl
  | 1, _ => rfl
  | 2, _ => rfl
  | 3, _ => rfl
  | 4, _ => rfl
  | 5, _ => rfl
  | 6, _ => rfl
  | 7, _ => rfl
  | 8, _ => rfl
  | 9, _ => rfl
  | 10, _ => rfl
theorem comp_fld {K : PySem.W.Frag} {x : Str} {L p D : Addr} {v : V} {bs : List Addr} {H1 : Hp} {Qd : Hp → Prop} (hp : H1 p = some (.lst (bs.map V.ref))) (hD : H1 D = none) (n : bs.length ≤ 11)
    (hb : ∀ (i : Nat) a, bs[i]? = some a → ∃ C, ErrCls K C x ∧ ErrAt H1 a C x v) (q : ∀ H', Same H1 H' → H' D = some (.lst (List.replicate bs.length v)) → Qd H') :
    Rd.compL K p (gName 3) tYes (tErrFld K x (tVar 3)) [3] (L2.start N_law_right [.ref L, v]) D Qd H1 := by
  refine Rd.byCL (xs := bs.map V.ref) (fun i H' => Same H1 H' ∧ H' D = some (.lst (List.replicate i v))) ⟨same_upd hD, upd_same⟩ (fun i H' hi h => h.1.seq (.inl (.inl hp))) (fun i y H' hx h => ?_) (fun H' h => ?_)
  · obtain ⟨s1, e1⟩ := h
    rw [List.getElem?_map] at hx
    obtain ⟨a, ha, rfl⟩ := Option.map_eq_some_iff.mp hx
    obtain ⟨C, hc, he⟩ := hb i a ha
    have hi : i < 11 := Nat.lt_of_lt_of_le (List.getElem?_eq_some_iff.mp ha).1 n
    refine Rd.turn1 rfl ⟨_, rfl, a, C, v, rfl, hc, he.same s1, ?_⟩
    refine Rd.acc e1 (by rw [List.length_replicate]; omega) ⟨?_, ?_⟩
    · intro b o e
      exact (upd_ne (ne_of_none e hD)).trans (s1 _ _ e)
    · rw [upd_same, List.replicate_succ']
  · rw [List.length_map] at h
    exact q H' h.1 h.2
def sp_right (K : PySem.W.Frag) (Cs : Nat → Addr) : Sp := fun vs H Q _ => ∃ (L : Addr) (as : List Addr) (v : V) (d : PyData), vs = [.ref L, v] ∧ H L = some (.lst (as.map V.ref)) ∧ ErrsAt H v (csAll Cs) as ∧ Dq K H v d ∧ Good d ∧ ∀ H', Same H H' → Q (.bl true) H'
section
variable {P : Program} {w : World} {K : PySem.W.Frag} {mg : Str → Option Value} {base : Heap} {f f_k : Addr} {fd fd_k : FuncData} {Cs fI : Nat → Addr} {R : Addr}
theorem ok_right (F : FnP K "_law_right" s_law_right f fd) (F_k : FnP K "_law_kinds" s_law_kinds f_k fd_k) (g_law_kinds : mg "_law_kinds" = some (.ref f_k)) (T : ErrsT P K mg Cs fI R) (hB : Mods base) : FG P w K mg base CX0 2 f fd ["errors", "given"] (sp_right K Cs) := by
  have G_law_kinds : FnOk P w K mg base CX0 1 f_k fd_k ["error"] (sp_kinds Cs) := ok_kinds F_k T
  have b_law_kinds : Binds K fd_k ["error"] [] := F_k.bindsN fun _ _ _ _ _ _ us hl => match us, hl with | [_], _ => rfl
  have k_law_kinds := F_k.kp
  refine FunD_okG F sc_law_right (fun vs H Q E h => ?_) (fun cdv A outer s H vs Q E gd hr h => ?_)
  · obtain ⟨L, as, v, d, rfl, _⟩ := h
    rfl
  obtain ⟨L, as, v, d, rfl, hL, he, hd, hg, hQ⟩ := h
  refine ⟨_, PSs.nox (pss_cons (ps_if (pt_cmpR (show OpR _ (compareOp .NotEq) (rNeD K) from op_neD hr.units) (pe_lc (own := [("error", 3)]) (g := gName 3) rfl sc_law_right.nd (Rd.pi_listK (K := K) rfl (pv 0)) (blkOk_by (N := N_law_right) (sc := defScope s_law_right) (by decide +kernel)) (fun _ _ _ _ _ => pg_name (i := 3) sc_law_right.nd rfl (Or.inl rfl)) (fun _ _ _ _ _ => pts_nil) (fun _ _ _ _ _ => (pe_call G_law_kinds (hr.mono (by decide)) rfl g_law_kinds k_law_kinds b_law_kinds .nil pass0 (pa_cons (pv 3) pa_nil)))) (pe_lc (own := [("at", 4)]) (g := gName 4) rfl sc_law_right.nd (pi_range1 (by rfl) T.m_range (pa_cons pe_int pa_nil)) (blkOk_by (N := N_law_right) (sc := defScope s_law_right) (by decide +kernel)) (fun _ _ _ _ _ => pg_name (i := 4) sc_law_right.nd rfl (Or.inl rfl)) (fun _ _ _ _ _ => pts_nil) (fun _ _ _ _ _ => (pe_lst (pa_cons (pv 4) pa_nil)))) (nomark _)) (pss_one (ps_ret pe_bl)) pss_nil)
    (pss_cons (ps_set (i := 2) sc_law_right.nd rfl (by first | exact Or.inl rfl | exact Or.inr rfl) (pe_op op_cat (pe_lc (own := [("error", 3)]) (g := gName 3) rfl sc_law_right.nd (Rd.pi_listK (K := K) rfl (pe_slice (show L2.SlR _ (rSlL K) from sl_list) (pv 0) po_none (po_some pe_int))) (blkOk_by (N := N_law_right) (sc := defScope s_law_right) (by decide +kernel)) (fun _ _ _ _ _ => pg_name (i := 3) sc_law_right.nd rfl (Or.inl rfl)) (fun _ _ _ _ _ => pts_nil) (fun _ _ _ _ _ => (pe_errFldK (K := K) rfl (pv 3)))) (pe_lc (own := [("error", 3)]) (g := gName 3) rfl sc_law_right.nd (Rd.pi_listK (K := K) rfl (pe_slice (show L2.SlR _ (rSlL K) from sl_list) (pv 0) (po_some pe_int) po_none)) (blkOk_by (N := N_law_right) (sc := defScope s_law_right) (by decide +kernel)) (fun _ _ _ _ _ => pg_name (i := 3) sc_law_right.nd rfl (Or.inl rfl)) (fun _ _ _ _ _ => pts_nil) (fun _ _ _ _ _ => (pe_errFldK (K := K) rfl (pv 3))))))
    (pss_one (ps_ret (pe_cmpR op_eq (pe_callB (show CallR _ (.builtin "repr") (rRepr K) from call_repr hB gd hr.units) (by rfl) T.m_repr (by decide +kernel) (pa_cons (pv 2) pa_nil)) (pe_callB (show CallR _ (.builtin "repr") (rRepr K) from call_repr hB gd hr.units) (by rfl) T.m_repr (by decide +kernel) (pa_cons (pe_op op_rep (pe_lst (pa_cons (pv 1) pa_nil)) pe_int) pa_nil)) (nomark _)))))), ?_⟩
  walk_at "rd"
  refine Rd.l1 (.inl (.inl hL)) fun D hD => ?_
  have nL := he.len
  refine Rd.byCL (xs := as.map V.ref) (fun i H' => Same H H' ∧ ∃ ps : List Addr, ps.length = i ∧ H' D = some (.lst (ps.map V.ref)) ∧ ∀ (j : Nat) p, ps[j]? = some p → p ≠ D ∧ H' p = some (.lst [.int (j : Int)]))
    ⟨same_upd hD, [], rfl, upd_same, fun _ _ z => nomatch z⟩ (fun i H' hi h => h.1.seq (.inl (.inl hL))) (fun i x H' hx h => ?_) (fun H' h => ?_)
  · obtain ⟨s1, ps, rfl, hD1, hps⟩ := h
    rw [List.getElem?_map] at hx
    obtain ⟨a, ha, rfl⟩ := Option.map_eq_some_iff.mp hx
    have hi : ps.length < 11 := by
      have := (List.getElem?_eq_some_iff.mp ha).1
      rw [nL] at this
      exact this
    refine Rd.turn1 rfl ?_
    walk_at "rd"
    have hat := he.get ps.length (cs_get hi) ha
    refine ⟨a, ps.length, rfl, by omega, .inr (by obtain ⟨dd, h1, h2⟩ := hat; exact ⟨dd, _, s1 _ _ h1, s1 _ _ h2⟩), fun p H2 np s2 e2 => ?_⟩
    refine Rd.acc (s2 _ _ hD1) (by rw [List.length_map]; omega) ⟨?_, ps ++ [p], by rw [List.length_append]; rfl, ?_, ?_⟩
    · intro b o e
      refine (upd_ne (ne_of_none e hD)).trans (s2 _ _ (s1 _ _ e))
    · rw [upd_same, List.map_append]; rfl
    · intro j q e
      by_cases c : j < ps.length
      · rw [List.getElem?_append_left c] at e
        obtain ⟨h1, h2⟩ := hps j q e
        exact ⟨h1, (upd_ne h1).trans (s2 _ _ h2)⟩
      · have c2 : j = ps.length := by
          have := (List.getElem?_eq_some_iff.mp e).1
          rw [List.length_append] at this
          have z : [p].length = 1 := rfl
          omega
        subst c2
        rw [List.getElem?_append_right (Nat.le_refl _), Nat.sub_self] at e
        cases e
        have ne : p ≠ D := fun z => by rw [z, hD1] at np; cases np
        exact ⟨ne, (upd_ne ne).trans e2⟩
  · obtain ⟨s1, ps, n1, hD1, hps⟩ := h
    rw [List.length_map, nL] at n1
    walk_at "rd"
    refine Rd.i1 (by decide) (by decide) fun D2 hD2 => ?_
    refine Rd.byCR (fun i H2 => Same H' H2 ∧ ∃ qs : List Addr, qs.length = i ∧ H2 D2 = some (.lst (qs.map V.ref)) ∧ ∀ (j : Nat) p, qs[j]? = some p → p ≠ D2 ∧ H2 p = some (.lst [.int (j : Int)]))
      ⟨same_upd hD2, [], rfl, upd_same, fun _ _ z => nomatch z⟩ (fun i H2 hi h => ?_) (fun H2 h => ?_)
    · obtain ⟨s2, qs, rfl, hD3, hqs⟩ := h
      have hi : qs.length < 11 := hi
      refine Rd.turn1 rfl ?_
      walk_at "rd"
      refine mkLs fun p H3 np s3 e3 => ?_
      rw [Int.zero_add] at e3
      refine Rd.acc (s3 _ _ hD3) (by rw [List.length_map]; omega) ⟨?_, qs ++ [p], by rw [List.length_append]; rfl, ?_, ?_⟩
      · intro b o e
        refine (upd_ne (ne_of_none e hD2)).trans (s3 _ _ (s2 _ _ e))
      · rw [upd_same, List.map_append]; rfl
      · intro j q e
        by_cases c : j < qs.length
        · rw [List.getElem?_append_left c] at e
          obtain ⟨h1, h2⟩ := hqs j q e
          exact ⟨h1, (upd_ne h1).trans (s3 _ _ h2)⟩
        · have c2 : j = qs.length := by
            have := (List.getElem?_eq_some_iff.mp e).1
            rw [List.length_append] at this
            have z : [p].length = 1 := rfl
            omega
          subst c2
          rw [List.getElem?_append_right (Nat.le_refl _), Nat.sub_self] at e
          cases e
          have ne : p ≠ D2 := fun z => by rw [z, hD3] at np; cases np
          exact ⟨ne, (upd_ne ne).trans e3⟩
    obtain ⟨s2, qs, n2, hD3, hqs⟩ := h
    have r1 := rows_at (K := K) (s2 _ _ hD1) (n1.trans rfl) fun j p e => s2 _ _ (hps j p e).2
    have r2 := rows_at (K := K) hD3 (n2.trans rfl) fun j p e => (hqs j p e).2
    refine ⟨_, _, r1, r2, by decide, by decide, ?_⟩
    walk_at "rd"
    refine Rd.brF (by decide) ?_
    have s3 := s1.trans s2
    walk_at "rd"
    have cut1 : cutV (as.map V.ref) none (some 8) = (as.take 8).map V.ref := by
      unfold cutV
      rw [List.length_map, nL, List.map_take]
      rfl
    have cut2 : cutV (as.map V.ref) (some 8) none = ((as.drop 8).take 3).map V.ref := by
      unfold cutV
      rw [List.length_map, nL, List.map_take, List.map_drop]
      rfl
    have n11 : as.length = 11 := nL
    refine Rd.slOf (.inl (.inl (s3 _ _ hL))) fun p3 hp3 => ?_
    rw [cut1]
    have s4 := s3.trans (same_upd (o := .lst ((as.take 8).map V.ref)) hp3)
    refine Rd.l1 (.inl (.inl upd_same)) fun D3 hD3 => ?_
    refine comp_fld (bs := as.take 8) upd_same hD3 (by rw [List.length_take]; omega) (fun i a e => ?_) fun H5 s5 e5 => ?_
    · have hi : i < 8 := by
        have := (List.getElem?_eq_some_iff.mp e).1
        rw [List.length_take] at this
        omega
      rw [List.getElem?_take_of_lt hi] at e
      have z := (he.get i (cs_get (by omega)) e).same s4
      have c := T.cl i (by omega)
      unfold fld at z c
      rw [if_pos hi] at z c
      exact ⟨_, c, z⟩
    have s6 := s4.trans s5
    walk_at "rd"
    refine Rd.slOf (.inl (.inl (s6 _ _ hL))) fun p4 hp4 => ?_
    rw [cut2]
    have s7 := s6.trans (same_upd (o := .lst (((as.drop 8).take 3).map V.ref)) hp4)
    refine Rd.l1 (.inl (.inl upd_same)) fun D4 hD4 => ?_
    refine comp_fld (bs := (as.drop 8).take 3) upd_same hD4 (by rw [List.length_take]; omega) (fun i a e => ?_) fun H6 s8 e6 => ?_
    · have hi : i < 3 := by
        have := (List.getElem?_eq_some_iff.mp e).1
        rw [List.length_take] at this
        omega
      rw [List.getElem?_take_of_lt hi, List.getElem?_drop] at e
      have z := (he.get (8 + i) (cs_get (by omega)) e).same s7
      have c := T.cl (8 + i) (by omega)
      unfold fld at z c
      rw [if_neg (by omega)] at z c
      exact ⟨_, c, z⟩
    have s9 := s7.trans s8
    have e7 := s8 _ _ ((same_upd (o := .lst (((as.drop 8).take 3).map V.ref)) hp4) _ _ e5)
    rw [show (as.take 8).length = 8 by rw [List.length_take]; omega] at e7
    rw [show ((as.drop 8).take 3).length = 3 by rw [List.length_take, List.length_drop]; omega] at e6
    refine catL e7 e6 fun p5 H7 n5 s10 e8 => ?_
    walk_at "rd"
    obtain ⟨g1, g2, g3⟩ := good_list hg
    have s11 := s9.trans s10
    have d1 : Dq K H7 (.ref p5) (.list (List.replicate 11 d)) := .lst (.inl (.inl e8)) (dq_rep (Dq.same s11 d v hd) 11)
    refine ⟨p5, _, rfl, d1, g1, g2, g3, ?_⟩
    walk_at "rd"
    refine mkLs fun p6 H8 n6 s12 e9 => ?_
    walk_at "rd"
    refine ⟨p6, 11, [v], rfl, rfl, e9, by decide, by decide, Rd.szd (Nat.le_of_ble_eq_true rfl), fun p7 hp7 => ?_⟩
    walk_at "rd"
    have s13 := (s11.trans s12).trans (same_upd (o := .lst (List.replicate (Int.toNat 11) [v]).flatten) hp7)
    have d2 : Dq K (upd H8 p7 (.lst (List.replicate (Int.toNat 11) [v]).flatten)) (.ref p7) (.list (List.replicate 11 d)) := .lst (.inl (.inl upd_same)) (dq_rep (Dq.same s13 d v hd) 11)
    refine ⟨p7, _, rfl, d2, g1, g2, g3, ?_⟩
    refine Rd.eq_ rfl ?_
    rw [decide_eq_true rfl]
    exact hQ _ s13
end
end K1
set_option Elab.async false
set_option linter.all false
set_option maxRecDepth 100000
set_option maxHeartbeats 4000000
/-! what the law's loop keeps -/
namespace K1
open PySem PySem.Spec PyProof.Rows L2 Gd Er
local macro_rules | `(tactic| walk_at "rdc") => `(tactic| (first
  | assumption | exact Or.inl ⟨by omega, by omega⟩ | exact Or.inr ⟨by omega, by omega⟩ | exact Or.inl ⟨by decide, by decide⟩ | exact Or.inr ⟨by decide, by decide⟩
  | (show (0 : Int) < _; omega) | (show (0 : Int) < _; decide) | decide | omega | exact ⟨by decide, by decide, by decide⟩ | exact ⟨by decide, by decide +kernel⟩ | decide +kernel))
local macro_rules | `(tactic| walk_at "rdh") => `(tactic| (first | assumption | exact upd_same))
local macro_rules | `(tactic| walk_at "rd1") => `(tactic| (first
  | (with_reducible refine Rd.var rfl ?_) | (with_reducible refine Rd.con ?_) | (with_reducible refine Rd.op ?_) | (with_reducible refine Rd.un ?_) | (with_reducible refine Rd.i0 ?_) | (with_reducible refine Rd.iu ?_)
  | (with_reducible refine Rd.nil ?_) | (with_reducible refine Rd.cons ?_) | (with_reducible refine Rd.cb ?_) | (with_reducible refine Rd.asg ?_) | (with_reducible refine Rd.name ?_) | (with_reducible refine Rd.sub ?_) | (with_reducible refine Rd.par ?_) | (with_reducible refine Rd.p2 ?_) | (with_reducible refine Rd.sl ?_) | (with_reducible refine Rd.noPart ?_) | (with_reducible refine Rd.part ?_) | (with_reducible refine Rd.int_ ?_) | (with_reducible refine Rd.seq ?_)
  | (with_reducible refine Rd.ret ?_) | (with_reducible refine Rd.retN ?_) | (with_reducible refine Rd.nxt ?_) | (with_reducible refine Rd.tst ?_) | (with_reducible refine Rd.tb_ ?_) | (with_reducible refine Rd.tnot ?_)
  | (with_reducible refine Rd.tor ?_) | (with_reducible refine Rd.tand ?_) | (with_reducible refine Rd.ifs ?_) | (with_reducible refine Rd.ife ?_) | (with_reducible refine Rd.lst ?_) | (with_reducible refine Rd.tup ?_)
  | (with_reducible refine Rd.int1 ?_) | (with_reducible refine Rd.bl ?_) | (with_reducible refine Rd.call ?_)
  | (with_reducible refine Rd.mx ?_) | (with_reducible refine Rd.bits ?_) | (with_reducible refine Rd.forR ?_) | (with_reducible refine Rd.forL ?_) | (with_reducible refine Rd.lcR ?_) | (with_reducible refine Rd.lcL ?_)
  | ((with_reducible refine' Rd.ixLT ?rh ?ra ?_); (case rh => walk_at "rdh"); (case ra => rfl))
  | ((with_reducible refine' Rd.setL ?rh ?ra ?_); (case rh => walk_at "rdh"); (case ra => rfl))
  | ((with_reducible refine Rd.ic ?rc ?_); (case rc => walk_at "rdc"))))
local macro_rules | `(tactic| walk_at "rd") => `(tactic| (repeat (walk_at "rd1")))

/-! ### data of the loop -/
theorem good_int {i : Int} (h : i.natAbs < 10 ^ 12) : Good (.int i) := by
  have h1 : i.natAbs.log2 < 40 := by
    by_cases z : i.natAbs = 0
    · rw [z]; decide
    · exact (Nat.log2_lt z).mpr (Nat.lt_of_lt_of_le h (by decide))
  refine ⟨?_, ?_, ?_, Nat.le_of_ble_eq_true rfl⟩
  · show decide (i.natAbs.log2 < 1920) = true
    exact decide_eq_true (by omega)
  · show decide ((PyData.shown (.int i)).length ≤ 13) = true
    exact decide_eq_true (PyData.shown_int_le h)
  · show (if i == 0 then 0 else i.natAbs.log2 + 1) ≤ 1000
    split <;> omega
theorem good_mk {m : Int} (h : m.natAbs < 10 ^ 12) : Good (.dict [(.str "a", .list [.int m])]) := by
  have g := good_int h
  refine ⟨?_, ?_, ?_, Nat.le_of_ble_eq_true rfl⟩
  · show (true && (PyData.showable (.int m) && true) && true) = true
    rw [g.s]; rfl
  · show (PyData.leavesShort 13 (.str "a") && (PyData.leavesShort 13 (.int m) && true) && true) = true
    rw [g.l]; decide
  · show PyData.weight (.str "a") + (PyData.weight (.int m) + 1 + 0) + 2 + 0 ≤ 1000
    have := g.w
    have z : PyData.weight (.int m) ≤ 41 := by
      show (if m == 0 then 0 else m.natAbs.log2 + 1) ≤ 41
      have : m.natAbs.log2 < 40 := by
        by_cases z : m.natAbs = 0
        · rw [z]; decide
        · exact (Nat.log2_lt z).mpr (Nat.lt_of_lt_of_le h (by decide))
      split <;> omega
    have y : PyData.weight (.str "a") = 1 := by decide
    omega
theorem good_mk2 {m : Int} (h : m.natAbs < 10 ^ 12) : Good (.dict [(.str "a", .list [.int m]), (.str "more", .list [.int 1])]) := by
  have g := good_int h
  refine ⟨?_, ?_, ?_, Nat.le_of_ble_eq_true rfl⟩
  · show (true && (PyData.showable (.int m) && true) && PyData.showableKv [(.str "more", .list [.int 1])]) = true
    rw [g.s]; decide
  · show (PyData.leavesShort 13 (.str "a") && (PyData.leavesShort 13 (.int m) && true) && PyData.leavesShortKv 13 [(.str "more", .list [.int 1])]) = true
    rw [g.l]; decide
  · show PyData.weight (.str "a") + (PyData.weight (.int m) + 1 + 0) + 2 + PyData.weightKv [(.str "more", .list [.int 1])] ≤ 1000
    have z : PyData.weight (.int m) ≤ 41 := by
      show (if m == 0 then 0 else m.natAbs.log2 + 1) ≤ 41
      have : m.natAbs.log2 < 40 := by
        by_cases z : m.natAbs = 0
        · rw [z]; decide
        · exact (Nat.log2_lt z).mpr (Nat.lt_of_lt_of_le h (by decide))
      split <;> omega
    have y : PyData.weight (.str "a") = 1 := by decide
    have x : PyData.weightKv [(.str "more", .list [.int 1])] = 8 := by decide
    omega
/-! ### a list or a dict written -/
def isMut (o : HO) : Prop := (∃ xs, o = .lst xs) ∨ ∃ kvs, o = .dK kvs
theorem mut_exo {a C : Addr} {d : Option Addr} (h : isMut (exo a C d)) : False := by
  rcases h with ⟨xs, z⟩ | ⟨xs, z⟩ <;> (unfold exo at z; cases z)
theorem mut_exd {a : Addr} {fs : List (Str × V)} (h : isMut (exd a fs)) : False := by
  rcases h with ⟨xs, z⟩ | ⟨xs, z⟩ <;> (unfold exd at z; cases z)
/-- from H1 on, only what stood in H as a list or a dict at g is written -/
structure Near (H H1 H2 : Hp) : Prop where
  s : Same H H1
  g : ∃ g o, H g = some o ∧ isMut o ∧ ∀ b u, b ≠ g → H1 b = some u → H2 b = some u
section
variable {H H1 H2 : Hp}
theorem Near.fresh (n : Near H H1 H2) {p : Addr} {o : HO} (hp : H p = none) (e : H1 p = some o) : H2 p = some o := by
  obtain ⟨g, u, hg, _, k⟩ := n.g
  exact k p o (fun z => by rw [z, hg] at hp; cases hp) e
theorem Near.err (n : Near H H1 H2) {a C : Addr} {x : Str} {v : V} (e : ErrAt H1 a C x v) : ErrAt H2 a C x v := by
  obtain ⟨g, u, hg, hm, k⟩ := n.g
  obtain ⟨d, h1, h2⟩ := e
  have h3 := n.s _ _ hg
  refine ⟨d, k _ _ (fun z => ?_) h1, k _ _ (fun z => ?_) h2⟩
  · rw [z, h3] at h1
    cases h1
    exact mut_exo hm
  · rw [z, h3] at h2
    cases h2
    exact mut_exd hm
theorem Near.errs (n : Near H H1 H2) {v : V} : ∀ {cs : List (Addr × Str)} {as : List Addr}, ErrsAt H1 v cs as → ErrsAt H2 v cs as
  | [], [], _ => True.intro
  | _ :: _, _ :: _, h => ⟨n.err h.1, n.errs h.2⟩
  | [], _ :: _, h => h.elim
  | _ :: _, [], h => h.elim
end
/-- the addresses of the loop's data -/
structure Ad where
  (Lg E0 e0 e1 t12 t0 l1 l0 d0 d1 lm tf t00 : Addr)
  (as0 as1 : List Addr)
  m : Int
def Ad.gs (A : Ad) : List V := [.int A.m, .int (0 - A.m), .ref A.t12, .ref A.t0, .ref A.l1, .ref A.l0, .ref A.d0, .ref A.d1, .str "a b", .str "", .bl true, .non, .ref A.tf]
structure St (Cs : Nat → Addr) (A : Ad) (i : Nat) (H : Hp) : Prop where
  m : A.m.natAbs < 10 ^ 12
  ne : A.l1 ≠ A.lm
  lg : H A.Lg = some (.lst A.gs)
  el : H A.E0 = some (.lst [.ref A.e0, .ref A.e1])
  h0 : H A.e0 = some (.lst (A.as0.map V.ref))
  h1 : H A.e1 = some (.lst (A.as1.map V.ref))
  er0 : ErrsAt H (.int A.m) (csAll Cs) A.as0
  er1 : ErrsAt H (.str "elder") (csAll Cs) A.as1
  t12 : H A.t12 = some (.tup [.int 1, .int 2])
  t0 : H A.t0 = some (.tup [])
  t00 : H A.t00 = some (.tup [.int 0])
  tf : H A.tf = some (.tup [.str "f", .ref A.t00])
  lm : H A.lm = some (.lst [.int A.m])
  l1 : i ≤ 4 → H A.l1 = some (.lst [.int 1])
  l0 : i ≤ 5 → H A.l0 = some (.lst [])
  d0 : i ≤ 6 → H A.d0 = some (.dK [])
  d1 : i ≤ 7 → H A.d1 = some (.dK [(.inr "a", .ref A.lm)])
section
variable {Cs : Nat → Addr} {A : Ad} {i : Nat} {H H' : Hp}
theorem St.same (s : Same H H') (h : St Cs A i H) : St Cs A i H' :=
  { m := h.m, ne := h.ne, lg := s _ _ h.lg, el := s _ _ h.el, h0 := s _ _ h.h0, h1 := s _ _ h.h1, er0 := h.er0.same s, er1 := h.er1.same s, t12 := s _ _ h.t12, t0 := s _ _ h.t0, t00 := s _ _ h.t00, tf := s _ _ h.tf, lm := s _ _ h.lm,
    l1 := fun z => s _ _ (h.l1 z), l0 := fun z => s _ _ (h.l0 z), d0 := fun z => s _ _ (h.d0 z), d1 := fun z => s _ _ (h.d1 z) }
theorem St.next (h : St Cs A i H) : St Cs A (i + 1) H :=
  { h with l1 := fun z => h.l1 (by omega), l0 := fun z => h.l0 (by omega), d0 := fun z => h.d0 (by omega), d1 := fun z => h.d1 (by omega) }
theorem ne_obj {a b : Addr} {o u : HO} (h1 : H a = some o) (h2 : H b = some u) (n : o ≠ u) : a ≠ b := fun z => by
  rw [z, h2] at h1
  cases h1
  exact n rfl
/-- a write at g, which the later turns do not ask -/
theorem St.put {g : Addr} {o u : HO} (h : St Cs A i H) (hg : H g = some o) (hm : isMut o) (n1 : o ≠ .lst A.gs) (n2 : o ≠ .lst [.ref A.e0, .ref A.e1]) (n3 : ∀ as : List Addr, as.length = 11 → o ≠ .lst (as.map V.ref)) (n4 : A.lm ≠ g)
    (l1 : i ≤ 4 → A.l1 ≠ g) (l0 : i ≤ 5 → A.l0 ≠ g) (d0 : i ≤ 6 → A.d0 ≠ g) (d1 : i ≤ 7 → A.d1 ≠ g) : St Cs A i (upd H g u) := by
  have nr : Near H H (upd H g u) := ⟨Same.refl H, g, o, hg, hm, fun b v n e => (upd_ne n).trans e⟩
  have nt : ∀ {t : Addr} {xs : List V}, H t = some (.tup xs) → t ≠ g := fun e => ne_obj e hg (fun z => by
    rw [← z] at hm
    rcases hm with ⟨_, z⟩ | ⟨_, z⟩ <;> cases z)
  exact { m := h.m, ne := h.ne, lg := (upd_ne (ne_obj h.lg hg (Ne.symm n1))).trans h.lg, el := (upd_ne (ne_obj h.el hg (Ne.symm n2))).trans h.el,
          h0 := (upd_ne (ne_obj h.h0 hg (Ne.symm (n3 _ h.er0.len)))).trans h.h0, h1 := (upd_ne (ne_obj h.h1 hg (Ne.symm (n3 _ h.er1.len)))).trans h.h1, er0 := nr.errs h.er0, er1 := nr.errs h.er1,
          t12 := (upd_ne (nt h.t12)).trans h.t12, t0 := (upd_ne (nt h.t0)).trans h.t0, t00 := (upd_ne (nt h.t00)).trans h.t00, tf := (upd_ne (nt h.tf)).trans h.tf, lm := (upd_ne n4).trans h.lm,
          l1 := fun z => (upd_ne (l1 z)).trans (h.l1 z), l0 := fun z => (upd_ne (l0 z)).trans (h.l0 z), d0 := fun z => (upd_ne (d0 z)).trans (h.d0 z), d1 := fun z => (upd_ne (d1 z)).trans (h.d1 z) }
/-- the given's data -/
theorem St.dq {K : PySem.W.Frag} {x : V} (h : St Cs A i H) (hx : A.gs[i]? = some x) : ∃ d, Dq K H x d ∧ Good d := by
  match i, hx with
  | 0, hx => cases hx; exact ⟨_, .int _, good_int h.m⟩
  | 1, hx => cases hx; exact ⟨_, .int _, good_int (by have := h.m; omega)⟩
  | 2, hx => cases hx; exact ⟨_, .tup (.inl (.inl h.t12)) (.cons (.int 1) (.cons (.int 2) .nil)), by decide, by decide, by decide, by decide⟩
  | 3, hx => cases hx; exact ⟨_, .tup (.inl (.inl h.t0)) .nil, by decide, by decide, by decide, by decide⟩
  | 4, hx => cases hx; exact ⟨_, .lst (.inl (.inl (h.l1 (by decide)))) (.cons (.int 1) .nil), by decide, by decide, by decide, by decide⟩
  | 5, hx => cases hx; exact ⟨_, .lst (.inl (.inl (h.l0 (by decide)))) .nil, by decide, by decide, by decide, by decide⟩
  | 6, hx => cases hx; exact ⟨_, .dct (h.d0 (by decide)) .nil, by decide, by decide, by decide, by decide⟩
  | 7, hx => cases hx; exact ⟨_, .dct (h.d1 (by decide)) (.cons (.lst (.inl (.inl h.lm)) (.cons (.int _) .nil)) .nil), good_mk h.m⟩
  | 8, hx => cases hx; exact ⟨_, .str _, by decide, by decide, by decide, by decide⟩
  | 9, hx => cases hx; exact ⟨_, .str _, by decide, by decide, by decide, by decide⟩
  | 10, hx => cases hx; exact ⟨_, .bl _, by decide, by decide, by decide, by decide⟩
  | 11, hx => cases hx; exact ⟨_, .non, by decide, by decide, by decide, by decide⟩
  | 12, hx => cases hx; exact ⟨_, .tup (.inl (.inl h.tf)) (.cons (.str _) (.cons (.tup (.inl (.inl h.t00)) (.cons (.int 0) .nil)) .nil)), by decide, by decide, by decide, by decide⟩
  | i + 13, hx => cases hx
end
end K1
set_option Elab.async false
set_option linter.all false
set_option maxRecDepth 100000
set_option maxHeartbeats 4000000
/-! the law -/
namespace K1
open PySem PySem.Spec PyProof.Rows L2 Gd Er
local macro_rules | `(tactic| walk_at "rdc") => `(tactic| (first
  | assumption | exact Or.inl ⟨by omega, by omega⟩ | exact Or.inr ⟨by omega, by omega⟩ | exact Or.inl ⟨by decide, by decide⟩ | exact Or.inr ⟨by decide, by decide⟩
  | (show (0 : Int) < _; omega) | (show (0 : Int) < _; decide) | decide | omega | exact ⟨by decide, by decide, by decide⟩ | exact ⟨by decide, by decide +kernel⟩ | decide +kernel))
local macro_rules | `(tactic| walk_at "rdh") => `(tactic| (first | assumption | exact upd_same))
local macro_rules | `(tactic| walk_at "rd1") => `(tactic| (first
  | (with_reducible refine Rd.var rfl ?_) | (with_reducible refine Rd.con ?_) | (with_reducible refine Rd.op ?_) | (with_reducible refine Rd.un ?_) | (with_reducible refine Rd.i0 ?_) | (with_reducible refine Rd.iu ?_)
  | (with_reducible refine Rd.nil ?_) | (with_reducible refine Rd.cons ?_) | (with_reducible refine Rd.cb ?_) | (with_reducible refine Rd.asg ?_) | (with_reducible refine Rd.name ?_) | (with_reducible refine Rd.sub ?_) | (with_reducible refine Rd.par ?_) | (with_reducible refine Rd.p2 ?_) | (with_reducible refine Rd.sl ?_) | (with_reducible refine Rd.noPart ?_) | (with_reducible refine Rd.part ?_) | (with_reducible refine Rd.int_ ?_) | (with_reducible refine Rd.seq ?_)
  | (with_reducible refine Rd.ret ?_) | (with_reducible refine Rd.retN ?_) | (with_reducible refine Rd.nxt ?_) | (with_reducible refine Rd.tst ?_) | (with_reducible refine Rd.tb_ ?_) | (with_reducible refine Rd.tnot ?_)
  | (with_reducible refine Rd.tor ?_) | (with_reducible refine Rd.tand ?_) | (with_reducible refine Rd.ifs ?_) | (with_reducible refine Rd.ife ?_) | (with_reducible refine Rd.lst ?_) | (with_reducible refine Rd.tup ?_)
  | (with_reducible refine Rd.int1 ?_) | (with_reducible refine Rd.bl ?_) | (with_reducible refine Rd.call ?_)
  | (with_reducible refine Rd.mx ?_) | (with_reducible refine Rd.bits ?_) | (with_reducible refine Rd.forR ?_) | (with_reducible refine Rd.forL ?_) | (with_reducible refine Rd.lcR ?_) | (with_reducible refine Rd.lcL ?_)
  | ((with_reducible refine' Rd.ixLT ?rh ?ra ?_); (case rh => walk_at "rdh"); (case ra => rfl))
  | ((with_reducible refine' Rd.setL ?rh ?ra ?_); (case rh => walk_at "rdh"); (case ra => rfl))
  | ((with_reducible refine Rd.ic ?rc ?_); (case rc => walk_at "rdc"))))
local macro_rules | `(tactic| walk_at "rd") => `(tactic| (repeat (walk_at "rd1")))

section
variable {K : PySem.W.Frag} {H H1 : Hp} {Q : VK} {x : V} {t c : String} {b : Bool}
theorem isi1 (ty : TyX K H x (.type t)) (k : kitB t c = some b) (q : Q (.bl b) H) : rIsi K [x, .ty c] H Q := ⟨x, _, _, _, b, rfl, .ty _, ty, kit_ty k, q⟩
theorem dnew (q : ∀ p H', H p = none → Same H H' → H' p = some (.dK []) → Q (.ref p) H') {σ : L2.St} : tDNewK σ H Q := fun p hp => q p _ hp (same_upd hp) upd_same
theorem disp1 {k : Str} {n : Nat} {v : V} {σ : L2.St} (hv : σ[n]? = some (some v)) (q : ∀ p l H', H p = none → H l = none → Same H H' → H' l = some (.lst [v]) → H' p = some (.dK [(.inr k, .ref l)]) → Q (.ref p) H') :
    tDisp [(tC (.str k), tLst (tCons (tVar n) tNil))] σ H Q := by
  intro p hp
  simp only [tPairs]
  refine Rd.con (Rd.lst (Rd.cons (Rd.var hv (Rd.nil ?_))))
  refine mkLs fun l H2 nl s2 e2 => ?_
  have e3 := s2 _ _ (upd_same (H := H) (a := p) (o := .dK []))
  have ne : l ≠ p := fun z => by
    rw [z] at e2
    rw [e2] at e3
    cases e3
  refine ⟨e3, [(.inr k, .ref l)], rfl, Nat.le_of_ble_eq_true rfl, ?_⟩
  refine q p l _ hp (same_none (same_upd hp) nl) (fun b o e => ?_) ((upd_ne ne).trans e2) upd_same
  exact (upd_ne (ne_of_none e hp)).trans (s2 _ _ ((upd_ne (ne_of_none e hp)).trans e))
end
theorem drop {te : TE} {D : Ends} {σ : L2.St} {H : Hp} (q : te σ H fun _ H1 => D.nx σ H1) : tDrop te D σ H := q
theorem bm {K : PySem.W.Frag} {T : String} {r : V → List V → Hp → VK → Prop} {to : TE} {t : TA} {σ : L2.St} {H : Hp} {Q : VK} (q : to σ H fun x H1 => tyV K T x H1 ∧ t σ H1 fun xs H2 => r x xs H2 Q) : tBM K T r to t σ H Q := q
theorem not11 {xs : List V} (n : xs.length ≠ 11) (as : List Addr) (h : as.length = 11) : HO.lst xs ≠ .lst (as.map V.ref) := fun z => by
  injection z with z
  rw [z, List.length_map] at n
  exact n h
theorem notLen {xs ys : List V} (n : xs.length ≠ ys.length) : HO.lst xs ≠ .lst ys := fun z => by
  injection z with z
  exact n (congrArg List.length z)
abbrev tMids (K : PySem.W.Frag) (u : TS) : TS := tSeq (tIfS (tB (tCB (rIsi K) (tCons (tVar 3) (tCons (tC (.ty "list")) tNil)))) (tDrop (tBM K "list" rAppend (tVar 3) (tCons (tC (.str "more")) tNil))) tNext)
  (tSeq (tIfS (tB (tCB (rIsi K) (tCons (tVar 3) (tCons (tC (.ty "dict")) tNil)))) (sDPut (tVar 3) (tC (.str "more")) (tLst (tCons (tC (.int 1)) tNil))) tNext) u)
section
variable {K : PySem.W.Frag} {u : TS} {D : Ends} {σ : L2.St} {A : Ad} {Cs : Nat → Addr} {i : Nat} {x : V} {H H1 : Hp}
theorem mid_imm {t : String} (hv : σ[3]? = some (some x)) (ty : TyX K H1 x (.type t)) (k1 : kitB t "list" = some false) (k2 : kitB t "dict" = some false) (q : u D σ H1) : tMids K u D σ H1 := by
  refine Rd.seq (Rd.ifs (Rd.tb_ (Rd.cb (Rd.cons (Rd.var hv (Rd.cons (Rd.con (Rd.nil ?_))))))))
  refine isi1 ty k1 (Rd.bl (Rd.brF rfl (Rd.nxt ?_)))
  refine Rd.seq (Rd.ifs (Rd.tb_ (Rd.cb (Rd.cons (Rd.var hv (Rd.cons (Rd.con (Rd.nil ?_))))))))
  exact isi1 ty k2 (Rd.bl (Rd.brF rfl (Rd.nxt q)))
theorem mid_list {g : Addr} {xs : List V} (hv : σ[3]? = some (some (.ref g))) (hg : H1 g = some (.lst xs)) (n : xs.length < 1000) (q : u D σ (upd H1 g (.lst (xs ++ [.str "more"])))) : tMids K u D σ H1 := by
  refine Rd.seq (Rd.ifs (Rd.tb_ (Rd.cb (Rd.cons (Rd.var hv (Rd.cons (Rd.con (Rd.nil ?_))))))))
  refine isi1 (.base (.lst hg)) (t := "list") (by decide +kernel) (Rd.bl (Rd.brT rfl ?_))
  refine drop (bm (Rd.var hv ⟨.inl ⟨rfl, _, .inl (.inl hg)⟩, Rd.cons (Rd.con (Rd.nil ⟨g, xs, _, rfl, rfl, hg, Nat.lt_of_lt_of_le n (by decide), ?_⟩))⟩))
  refine Rd.seq (Rd.ifs (Rd.tb_ (Rd.cb (Rd.cons (Rd.var hv (Rd.cons (Rd.con (Rd.nil ?_))))))))
  exact isi1 (.base (.lst upd_same)) (t := "list") (by decide +kernel) (Rd.bl (Rd.brF rfl (Rd.nxt q)))
theorem mid_dict {g : Addr} {kvs : List (Key × V)} (hv : σ[3]? = some (some (.ref g))) (hg : H1 g = some (.dK kvs)) (n : kvs.length < 1000) (q : ∀ l H2, Same H1 H2 → H1 l = none → H2 l = some (.lst [.int 1]) → u D σ (upd H2 g (.dK (putK kvs (.inr "more") (.ref l))))) : tMids K u D σ H1 := by
  refine Rd.seq (Rd.ifs (Rd.tb_ (Rd.cb (Rd.cons (Rd.var hv (Rd.cons (Rd.con (Rd.nil ?_))))))))
  refine isi1 (.base (.dK hg)) (t := "dict") (by decide +kernel) (Rd.bl (Rd.brF rfl (Rd.nxt ?_)))
  refine Rd.seq (Rd.ifs (Rd.tb_ (Rd.cb (Rd.cons (Rd.var hv (Rd.cons (Rd.con (Rd.nil ?_))))))))
  refine isi1 (.base (.dK hg)) (t := "dict") (by decide +kernel) (Rd.bl (Rd.brT rfl ?_))
  refine Rd.lst (Rd.cons (Rd.con (Rd.nil (mkLs fun l H2 nl s2 e2 => ?_))))
  refine Rd.var hv (Rd.con ⟨g, _, rfl, DPut.k (k := .inr "more") (s2 _ _ hg) (Nat.lt_of_lt_of_le n (by decide)), ?_⟩)
  exact q l H2 s2 nl e2
theorem near_refl {g : Addr} {o : HO} (s : Same H H1) (hg : H g = some o) (m : isMut o) : Near H H1 H1 := ⟨s, g, o, hg, m, fun b v n e => e⟩
theorem mids (h : St Cs A i H) (s : Same H H1) (hx : A.gs[i]? = some x) (hv : σ[3]? = some (some x)) (q : ∀ H2, Near H H1 H2 → (∃ d, Dq K H2 x d ∧ Good d) → St Cs A (i + 1) H2 → u D σ H2) : tMids K u D σ H1 := by
  have h1 := h.same s
  have imm : u D σ H1 := q H1 (near_refl s h.lg (.inl ⟨_, rfl⟩)) (h1.dq hx) h1.next
  match i, hx with
  | 0, hx => cases hx; exact mid_imm hv (.base (.int _)) (by decide +kernel) (by decide +kernel) imm
  | 1, hx => cases hx; exact mid_imm hv (.base (.int _)) (by decide +kernel) (by decide +kernel) imm
  | 2, hx => cases hx; exact mid_imm hv (.base (.tup h1.t12)) (by decide +kernel) (by decide +kernel) imm
  | 3, hx => cases hx; exact mid_imm hv (.base (.tup h1.t0)) (by decide +kernel) (by decide +kernel) imm
  | 4, hx =>
    cases hx
    have e := h1.l1 (by decide)
    have e0 := h.l1 (by decide)
    refine mid_list hv e (by decide) (q _ ⟨s, A.l1, _, e0, .inl ⟨_, rfl⟩, fun b v n e => (upd_ne n).trans e⟩ ⟨_, .lst (.inl (.inl upd_same)) (.cons (.int 1) (.cons (.str "more") .nil)), by decide, by decide, by decide, by decide⟩ ?_)
    exact h1.next.put e (.inl ⟨_, rfl⟩) (notLen (Nat.ne_of_beq_eq_false rfl)) (notLen (Nat.ne_of_beq_eq_false rfl)) (not11 (by decide)) (Ne.symm h.ne) (fun z => absurd z (by decide)) (fun z => ne_obj (h1.l0 (by decide)) e (fun z => nomatch z)) (fun z => ne_obj (h1.d0 (by decide)) e (fun z => nomatch z)) (fun z => ne_obj (h1.d1 (by decide)) e (fun z => nomatch z))
  | 5, hx =>
    cases hx
    have e := h1.l0 (by decide)
    have e0 := h.l0 (by decide)
    refine mid_list hv e (by decide) (q _ ⟨s, A.l0, _, e0, .inl ⟨_, rfl⟩, fun b v n e => (upd_ne n).trans e⟩ ⟨_, .lst (.inl (.inl upd_same)) (.cons (.str "more") .nil), by decide, by decide, by decide, by decide⟩ ?_)
    exact h1.next.put e (.inl ⟨_, rfl⟩) (notLen (Nat.ne_of_beq_eq_false rfl)) (notLen (Nat.ne_of_beq_eq_false rfl)) (not11 (by decide)) (ne_obj h1.lm e (fun z => nomatch z)) (fun z => absurd z (by decide)) (fun z => absurd z (by decide)) (fun z => ne_obj (h1.d0 (by decide)) e (fun z => nomatch z)) (fun z => ne_obj (h1.d1 (by decide)) e (fun z => nomatch z))
  | 6, hx =>
    cases hx
    have e := h1.d0 (by decide)
    have e0 := h.d0 (by decide)
    refine mid_dict hv e (Nat.le_of_ble_eq_true rfl) fun l H2 s2 nl e2 => q _ ⟨s, A.d0, _, e0, .inr ⟨_, rfl⟩, fun b v n e => (upd_ne n).trans (s2 _ _ e)⟩ ⟨_, .dct upd_same (.cons (.lst (.inl (.inl ((upd_ne (ne_obj e2 (s2 _ _ e) (fun z => nomatch z))).trans e2))) (.cons (.int 1) .nil)) .nil), by decide, by decide, by decide, by decide⟩ ?_
    exact (h1.same s2).next.put (s2 _ _ e) (.inr ⟨_, rfl⟩) (fun z => nomatch z) (fun z => nomatch z) (fun as n z => nomatch z) (ne_obj (s2 _ _ h1.lm) (s2 _ _ e) (fun z => nomatch z)) (fun z => absurd z (by decide)) (fun z => absurd z (by decide)) (fun z => absurd z (by decide)) (fun z => ne_obj (s2 _ _ (h1.d1 (by decide))) (s2 _ _ e) (fun z => nomatch z))
  | 7, hx =>
    cases hx
    have e := h1.d1 (by decide)
    have e0 := h.d1 (by decide)
    refine mid_dict hv e (Nat.le_of_ble_eq_true rfl) fun l H2 s2 nl e2 => q _ ⟨s, A.d1, _, e0, .inr ⟨_, rfl⟩, fun b v n e => (upd_ne n).trans (s2 _ _ e)⟩
      ⟨_, .dct upd_same (.cons (.lst (.inl (.inl ((upd_ne (ne_obj (s2 _ _ h1.lm) (s2 _ _ e) (fun z => nomatch z))).trans (s2 _ _ h1.lm)))) (.cons (.int _) .nil)) (.cons (.lst (.inl (.inl ((upd_ne (ne_obj e2 (s2 _ _ e) (fun z => nomatch z))).trans e2))) (.cons (.int 1) .nil)) .nil)), good_mk2 h.m⟩ ?_
    exact (h1.same s2).next.put (s2 _ _ e) (.inr ⟨_, rfl⟩) (fun z => nomatch z) (fun z => nomatch z) (fun as n z => nomatch z) (ne_obj (s2 _ _ h1.lm) (s2 _ _ e) (fun z => nomatch z)) (fun z => absurd z (by decide)) (fun z => absurd z (by decide)) (fun z => absurd z (by decide)) (fun z => absurd z (by decide))
  | 8, hx => cases hx; exact mid_imm hv (.base (.str _)) (by decide +kernel) (by decide +kernel) imm
  | 9, hx => cases hx; exact mid_imm hv (.base (.str _)) (by decide +kernel) (by decide +kernel) imm
  | 10, hx => cases hx; exact mid_imm hv (.base (.bl _)) (by decide +kernel) (by decide +kernel) imm
  | 11, hx => cases hx; exact mid_imm hv (.base .non) (by decide +kernel) (by decide +kernel) imm
  | 12, hx => cases hx; exact mid_imm hv (.base (.tup h1.tf)) (by decide +kernel) (by decide +kernel) imm
  | i + 13, hx => cases hx
end

abbrev s_law : Stmt := top 24
abbrev N_law : List Str := ["script", "mark", "elder", "given", "first", "second"]
theorem sc_law : FnScope N_law ["script"] (defScope s_law) := ⟨rfl, rfl, rfl, by decide +kernel, rfl, by decide +kernel, by decide +kernel⟩
def sp_law (K : PySem.W.Frag) : Sp := fun vs H Q _ => ∃ (a : Addr) (ns : List Int), vs = [.ref a] ∧ SqL K H a (ns.map V.int) ∧ ∀ H', Q (.bl true) H'
section
variable {P : Program} {w : World} {K : PySem.W.Frag} {mg : Str → Option Value} {base : Heap} {Cs fI : Nat → Addr} {R : Addr}
variable {f f_c f_h f_g f_r f_k f_t f_p f_n f_b : Addr} {fd fd_c fd_h fd_g fd_r fd_k fd_t fd_p fd_n fd_b : FuncData}
theorem ok_law (F : FnP K "law" s_law f fd) (F_c : FnP K "_law_cell" s_law_cell f_c fd_c) (F_h : FnP K "_law_hash" s_law_hash f_h fd_h) (F_g : FnP K "_law_generator" s_law_generator f_g fd_g) (F_r : FnP K "_law_random" s_law_random f_r fd_r)
    (F_k : FnP K "_law_kinds" s_law_kinds f_k fd_k) (F_t : FnP K "_law_right" s_law_right f_t fd_t) (F_p : FnP K "_law_placed" s_law_placed f_p fd_p) (F_n : FnP K "_law_named" s_law_named f_n fd_n) (F_b : FnP K "_law_bare" s_law_bare f_b fd_b)
    (g_law_cell : mg "_law_cell" = some (.ref f_c)) (g_law_hash : mg "_law_hash" = some (.ref f_h)) (g_law_generator : mg "_law_generator" = some (.ref f_g)) (g_law_random : mg "_law_random" = some (.ref f_r)) (g_law_kinds : mg "_law_kinds" = some (.ref f_k))
    (g_law_right : mg "_law_right" = some (.ref f_t)) (g_law_placed : mg "_law_placed" = some (.ref f_p)) (g_law_named : mg "_law_named" = some (.ref f_n)) (g_law_bare : mg "_law_bare" = some (.ref f_b))
    (D : TxtD mg) (T : ErrsT P K mg Cs fI R) (hB : Mods base) : FG P w K mg base CX0 5 f fd ["script"] (sp_law K) := by
  have G_law_generator : FnOk P w K mg base CX0 2 f_g fd_g ["script", "index"] (sp_generator K) := ok_generator F_g F_c g_law_cell D
  have G_law_random : FnOk P w K mg base CX0 2 f_r fd_r ["generator", "bound"] sp_random := ok_random F_r F_h g_law_hash D
  have G_law_kinds : FnOk P w K mg base CX0 1 f_k fd_k ["error"] (sp_kinds Cs) := ok_kinds F_k T
  have G_law_right : FG P w K mg base CX0 2 f_t fd_t ["errors", "given"] (sp_right K Cs) := ok_right F_t F_k g_law_kinds T hB
  have G_law_placed : FnOk P w K mg base CX0 1 f_p fd_p ["given"] (sp_errs Cs) := ok_placed F_p T
  have G_law_named : FnOk P w K mg base CX0 1 f_n fd_n ["given"] (sp_errs Cs) := ok_named F_n T
  have G_law_bare : FnOk P w K mg base CX0 1 f_b fd_b [] (sp_bare Cs) := ok_bare F_b T
  have b_law_generator : Binds K fd_g ["script", "index"] [] := F_g.bindsN fun _ _ _ _ _ _ us hl => match us, hl with | [_, _], _ => rfl
  have b_law_random : Binds K fd_r ["generator", "bound"] [] := F_r.bindsN fun _ _ _ _ _ _ us hl => match us, hl with | [_, _], _ => rfl
  have b_law_kinds : Binds K fd_k ["error"] [] := F_k.bindsN fun _ _ _ _ _ _ us hl => match us, hl with | [_], _ => rfl
  have b_law_right : Binds K fd_t ["errors", "given"] [] := F_t.bindsN fun _ _ _ _ _ _ us hl => match us, hl with | [_, _], _ => rfl
  have b_law_placed : Binds K fd_p ["given"] [] := F_p.bindsN fun _ _ _ _ _ _ us hl => match us, hl with | [_], _ => rfl
  have b_law_named : Binds K fd_n ["given"] [] := F_n.bindsN fun _ _ _ _ _ _ us hl => match us, hl with | [_], _ => rfl
  have b_law_bare : Binds K fd_b [] [] := F_b.bindsN fun _ _ _ _ _ _ us hl => match us, hl with | [], _ => rfl
  have k_law_generator := F_g.kp
  have k_law_random := F_r.kp
  have k_law_kinds := F_k.kp
  have k_law_right := F_t.kp
  have k_law_placed := F_p.kp
  have k_law_named := F_n.kp
  have k_law_bare := F_b.kp
  refine FunD_okG F sc_law (fun vs H Q E h => ?_) (fun cdv A outer s H vs Q E gd hr h => ?_)
  · obtain ⟨a, ns, rfl, _⟩ := h
    rfl
  obtain ⟨a, ns, rfl, hS, hQ⟩ := h
  refine ⟨_, PSs.nox (pss_cons (ps_set (i := 1) sc_law.nd rfl (by first | exact Or.inl rfl | exact Or.inr rfl) (pe_call G_law_random (hr.mono (by decide)) rfl g_law_random k_law_random b_law_random .nil pass0 (pa_cons (pe_call G_law_generator (hr.mono (by decide)) rfl g_law_generator k_law_generator b_law_generator .nil pass0 (pa_cons (pv 0) (pa_cons pe_int pa_nil))) (pa_cons (pe_op op_pow pe_int pe_int) pa_nil))))
    (pss_cons (ps_set (i := 2) sc_law.nd rfl (by first | exact Or.inl rfl | exact Or.inr rfl) (pe_lst (pa_cons (pe_call G_law_placed (hr.mono (by decide)) rfl g_law_placed k_law_placed b_law_placed .nil pass0 (pa_cons (pv 1) pa_nil)) (pa_cons (pe_call G_law_named (hr.mono (by decide)) rfl g_law_named k_law_named b_law_named .nil pass0 (pa_cons pe_str pa_nil)) pa_nil))))
    (pss_cons (ps_for PassesOwn.never rfl (Rd.pi_listK (K := K) rfl (pe_lst (pa_cons (pv 1) (pa_cons (pe_op op_sub pe_int (pv 1)) (pa_cons (pe_tup (pa_cons pe_int (pa_cons pe_int pa_nil))) (pa_cons (pe_tup pa_nil) (pa_cons (pe_lst (pa_cons pe_int pa_nil)) (pa_cons (pe_lst pa_nil) (pa_cons pe_dnewK (pa_cons (pe_disp (pps_cons pe_str (pe_lst (pa_cons (pv 1) pa_nil)) pps_nil) (by rfl) (by rfl) (fun z => by cases z) (by decide)) (pa_cons pe_str (pa_cons pe_str (pa_cons pe_bl (pa_cons pe_non (pa_cons (pe_tup (pa_cons pe_str (pa_cons (pe_tup (pa_cons pe_int pa_nil)) pa_nil))) pa_nil))))))))))))))) (pg_name (i := 3) sc_law.nd rfl (by first | exact Or.inl rfl | exact Or.inr rfl)) (pss_cons (ps_par (i := 4) (j := 5) (by rfl) sc_law.nd rfl rfl (by decide) rfl rfl (pa_cons (pe_call G_law_placed (hr.mono (by decide)) rfl g_law_placed k_law_placed b_law_placed .nil pass0 (pa_cons (pv 3) pa_nil)) (pa_cons (pe_call G_law_named (hr.mono (by decide)) rfl g_law_named k_law_named b_law_named .nil pass0 (pa_cons (pv 3) pa_nil)) pa_nil)) (by rfl))
    (pss_cons (ps_if (PW.pt (pw_or (pt_not (pt_val (pe_fg gd G_law_right (hr.mono (by decide)) rfl g_law_right k_law_right b_law_right .nil pass0 (pa_cons (pv 4) (pa_cons (pv 3) pa_nil))))) (pw_or1 (pt_not (pt_val (pe_fg gd G_law_right (hr.mono (by decide)) rfl g_law_right k_law_right b_law_right .nil pass0 (pa_cons (pv 5) (pa_cons (pv 3) pa_nil)))))))) (pss_one (ps_ret pe_bl)) pss_nil)
    (pss_cons (ps_if (pt_val (pe_callB (show CallR _ (.builtin "isinstance") (rIsi K) from call_isi) (by rfl) T.m_isinstance (by decide +kernel) (pa_cons (pv 3) (pa_cons (pe_bltn (v := .ty "list") (by rfl) T.m_list (by decide +kernel) rfl) pa_nil)))) (pss_one (ps_expr (pe_bm PySem.F.plainAttrs_list PySem.F.slot_list_append PySem.F.type_list_append mt_append (pv 3) (pa_cons pe_str pa_nil)))) pss_nil)
    (pss_cons (ps_if (pt_val (pe_callB (show CallR _ (.builtin "isinstance") (rIsi K) from call_isi) (by rfl) T.m_isinstance (by decide +kernel) (pa_cons (pv 3) (pa_cons (pe_bltn (v := .ty "dict") (by rfl) T.m_dict (by decide +kernel) rfl) pa_nil)))) (pss_one (ps_dput (Nat.lt_of_le_of_lt (Nat.add_le_add_left (show 1 ≤ 64 by decide) _) hr.units) (pv 3) pe_str (pe_lst (pa_cons pe_int pa_nil)) rfl)) pss_nil)
    (pss_one (ps_if (PW.pt (pw_or (pt_not (pt_val (pe_fg gd G_law_right (hr.mono (by decide)) rfl g_law_right k_law_right b_law_right .nil pass0 (pa_cons (pv 4) (pa_cons (pv 3) pa_nil))))) (pw_or1 (pt_not (pt_val (pe_fg gd G_law_right (hr.mono (by decide)) rfl g_law_right k_law_right b_law_right .nil pass0 (pa_cons (pv 5) (pa_cons (pv 3) pa_nil)))))))) (pss_one (ps_ret pe_bl)) pss_nil)))))))
    (pss_cons (ps_if (PW.pt (pw_or (pt_not (pt_val (pe_fg gd G_law_right (hr.mono (by decide)) rfl g_law_right k_law_right b_law_right .nil pass0 (pa_cons (pe_ix (show IxR _ (rIxL K) from ix_list) (pv 2) pe_int (fun _ _ => rfl)) (pa_cons (pv 1) pa_nil))))) (pw_or (pt_not (pt_val (pe_fg gd G_law_right (hr.mono (by decide)) rfl g_law_right k_law_right b_law_right .nil pass0 (pa_cons (pe_ix (show IxR _ (rIxL K) from ix_list) (pv 2) pe_int (fun _ _ => rfl)) (pa_cons pe_str pa_nil))))) (pw_or1 (pt_not (pt_val (pe_fg gd G_law_right (hr.mono (by decide)) rfl g_law_right k_law_right b_law_right .nil pass0 (pa_cons (pe_call0 G_law_bare (hr.mono (by decide)) rfl g_law_bare k_law_bare b_law_bare .nil pass0) (pa_cons pe_non pa_nil))))))))) (pss_one (ps_ret pe_bl)) pss_nil)
    (pss_one (ps_ret (pe_cmpR (show OpR _ (compareOp .Eq) (rEqD K) from op_eqD hr.units) (pe_call G_law_kinds (hr.mono (by decide)) rfl g_law_kinds k_law_kinds b_law_kinds .nil pass0 (pa_cons (pe_bare T.x_NothingToUndo T.i_NothingToUndo T.g_NothingToUndo rfl ) pa_nil)) (pe_lst (pa_cons pe_int pa_nil)) (nomark _)))))))), ?_⟩
  walk_at "rd"
  refine ⟨a, ns, 0, rfl, hS, by decide, fun g x y hg hok => ?_⟩
  walk_at "rd"
  refine ⟨g, x, y, _, _, rfl, upd_same, hok, by decide, by decide, fun m x' z' m0 m1 _ _ _ => ?_⟩
  have hm : m.natAbs < 10 ^ 12 := by
    have : (10 : Int) ^ Int.toNat 12 = 1000000000000 := by decide
    omega
  generalize upd (upd H g _) g _ = H0
  walk_at "rd"
  refine ⟨_, rfl, fun e0 as0 H1 n1 s1 l1 r1 => ?_⟩
  walk_at "rd"
  refine ⟨_, rfl, fun e1 as1 H2 n2 s2 l2 r2 => ?_⟩
  walk_at "rd"
  refine mkLs fun E0 H3 n3 s3 l3 => ?_
  walk_at "rd"
  refine mkTs fun t12 H4 n4 s4 l4 => ?_
  walk_at "rd"
  refine mkTs fun t0 H5 n5 s5 l5 => ?_
  walk_at "rd"
  refine mkLs fun L1 H6 n6 s6 l6 => ?_
  walk_at "rd"
  refine mkLs fun L0 H7 n7 s7 l7 => ?_
  walk_at "rd"
  refine dnew fun d0 H8 n8 s8 l8 => ?_
  walk_at "rd"
  refine disp1 rfl fun d1 lm H9 n9 nm9 s9 m9 l9 => ?_
  walk_at "rd"
  refine mkTs fun t00 H10 n10 s10 l10 => ?_
  walk_at "rd"
  refine mkTs fun tf H11 n11 s11 l11 => ?_
  walk_at "rd"
  refine mkLs fun Lg H12 n12 s12 l12 => ?_
  refine Rd.l1 (.inl (.inl l12)) ?_
  have u11 := s12
  have u10 := s11.trans u11
  have u9 := s10.trans u10
  have u8 := s9.trans u9
  have u7 := s8.trans u8
  have u6 := s7.trans u7
  have u5 := s6.trans u6
  have u4 := s5.trans u5
  have u3 := s4.trans u4
  have u2 := s3.trans u3
  have u1 := s2.trans u2
  have ne : L1 ≠ lm := fun z => by
    rw [← z, s8 _ _ (s7 _ _ l6)] at nm9
    cases nm9
  let B : Ad := ⟨Lg, E0, e0, e1, t12, t0, L1, L0, d0, d1, lm, tf, t00, as0, as1, m⟩
  have st0 : St Cs B 0 H12 :=
    { m := hm, ne := ne, lg := l12, el := u3 _ _ l3, h0 := u1 _ _ l1, h1 := u2 _ _ l2, er0 := r1.same u1, er1 := r2.same u2, t12 := u4 _ _ l4, t0 := u5 _ _ l5, t00 := u10 _ _ l10, tf := u11 _ _ l11, lm := u9 _ _ m9,
      l1 := fun _ => u6 _ _ l6, l0 := fun _ => u7 _ _ l7, d0 := fun _ => u8 _ _ l8, d1 := fun _ => u9 _ _ l9 }
  refine Rd.byL (xs := B.gs) (fun i σ H' => ∃ o3 o4 o5, σ = [some (.ref a), some (.int m), some (.ref E0), o3, o4, o5] ∧ St Cs B i H') ⟨none, none, none, rfl, st0⟩ (fun i σ H' hi h => ?_) (fun i x σ H' hx h => ?_) (fun σ H' h => ?_)
  · obtain ⟨_, _, _, _, st⟩ := h
    exact .inl (.inl st.lg)
  · obtain ⟨o3, o4, o5, rfl, st⟩ := h
    obtain ⟨d, hd, hgd⟩ := st.dq (K := K) hx
    walk_at "rd"
    refine ⟨_, rfl, fun p1 bs1 G1 k1 v1 c1 q1 => ?_⟩
    walk_at "rd"
    refine ⟨_, rfl, fun p2 bs2 G2 k2 v2 c2 q2 => ?_⟩
    walk_at "rd"
    refine ⟨p1, bs1, x, d, rfl, v2 _ _ c1, q1.same v2, Dq.same (v1.trans v2) d x hd, hgd, fun G3 v3 => ?_⟩
    walk_at "rd"
    refine Rd.brF rfl ?_
    walk_at "rd"
    refine ⟨p2, bs2, x, d, rfl, v3 _ _ c2, q2.same v3, Dq.same ((v1.trans v2).trans v3) d x hd, hgd, fun G4 v4 => ?_⟩
    refine Rd.bl (Rd.brF rfl (Rd.nxt ?_))
    refine mids st (((v1.trans v2).trans v3).trans v4) hx rfl fun G5 nr ⟨d2, hd2, hg2⟩ st2 => ?_
    have f1 := nr.fresh k1 (v4 _ _ (v3 _ _ (v2 _ _ c1)))
    have f2 := nr.fresh (same_none v1 k2) (v4 _ _ (v3 _ _ c2))
    have z1 := nr.errs (((q1.same v2).same v3).same v4)
    have z2 := nr.errs ((q2.same v3).same v4)
    walk_at "rd"
    refine ⟨p1, bs1, x, d2, rfl, f1, z1, hd2, hg2, fun G6 v6 => ?_⟩
    walk_at "rd"
    refine Rd.brF rfl ?_
    walk_at "rd"
    refine ⟨p2, bs2, x, d2, rfl, v6 _ _ f2, z2.same v6, Dq.same v6 d2 x hd2, hg2, fun G7 v7 => ?_⟩
    refine Rd.bl (Rd.brF rfl (Rd.nxt ?_))
    exact ⟨_, _, _, rfl, st2.same (v6.trans v7)⟩
  · obtain ⟨o3, o4, o5, rfl, st⟩ := h
    walk_at "rd"
    refine Rd.ixL (.inl (.inl st.el)) rfl ?_
    walk_at "rd"
    refine ⟨e0, as0, _, _, rfl, st.h0, st.er0, .int _, good_int hm, fun G1 v1 => ?_⟩
    have st1 := st.same v1
    walk_at "rd"
    refine Rd.brF rfl ?_
    walk_at "rd"
    refine Rd.ixL (.inl (.inl st1.el)) rfl ?_
    walk_at "rd"
    refine ⟨e1, as1, _, _, rfl, st1.h1, st1.er1, .str _, ⟨by decide, by decide, by decide, by decide⟩, fun G2 v2 => ?_⟩
    walk_at "rd"
    refine Rd.brF rfl ?_
    walk_at "rd"
    refine ⟨rfl, fun p as G3 n3 s3 l3 q3 => ?_⟩
    walk_at "rd"
    refine ⟨p, as, _, _, rfl, l3, q3, .non, ⟨by decide, by decide, by decide, by decide⟩, fun G4 v4 => ?_⟩
    walk_at "rd"
    refine Rd.brF rfl ?_
    walk_at "rd"
    intro b hb
    refine ⟨b, 11, rfl, by decide, .inl upd_same, fun p5 G5 n5 s5 l5 => ?_⟩
    walk_at "rd"
    refine mkLs fun p6 G6 n6 s6 l6 => ?_
    refine ⟨.list [.int 11], .list [.int 11], .lst (.inl (.inl (s6 _ _ l5))) (.cons (.int _) .nil), .lst (.inl (.inl l6)) (.cons (.int _) .nil), by decide, by decide, ?_⟩
    exact hQ _
end
end K1
set_option Elab.async false
set_option linter.all false
set_option maxRecDepth 100000
set_option maxHeartbeats 400000
/-! the head's facts -/
namespace Hd
open PySem PySem.Spec PyProof.Rows L2 Gd Er
/-! ### facts of the error classes, as tests -/
abbrev Fr := PySem.W.Frag
def oexB (K : Fr) (C : Addr) : Bool := (match K.lookup C with
  | some ⟨.type "type", _, .cls cd, sl⟩ => (match cd.mro, sl.toList with
    | .ref C' :: bm, [_, _, _, _, some (.builtin n), _] => C' == C && n == "ValueError.__new__" && !cd.hasDel && cd.hasDict && PySem.HandSPX.refsVE bm
    | _, _ => false)
  | _ => false) && (He.eqO (PySem.W.findIn K (.ref C) "__setattr__") (some (some (.builtin "object.__setattr__"))) && (decide (PySem.W.subIn K (.ref C) (.type "BaseException") = some true) && (decide (PySem.W.typeIn K (.ref C) = some (.type "type")) && PySem.W.keepIn K (.ref C))))
theorem oexB_ok {K : Fr} {C : Addr} (h : oexB K C = true) : OexC K C := by
  obtain ⟨h1, h⟩ := He.ba h
  obtain ⟨h2, h⟩ := He.ba h
  obtain ⟨h3, h⟩ := He.ba h
  obtain ⟨h4, h5⟩ := He.ba h
  refine ⟨?_, He.eqO_ok h2, of_decide_eq_true h3, of_decide_eq_true h4, h5⟩
  split at h1
  · rename_i dd cd sl ho
    split at h1
    · rename_i C' bm k0 k1 k2 k3 n k5 hm hs
      simp only [Bool.and_eq_true, beq_iff_eq, Bool.not_eq_true'] at h1
      obtain ⟨⟨⟨⟨rfl, rfl⟩, hdel⟩, hdi⟩, ht⟩ := h1
      obtain ⟨nm, bs, mro, ns, qn, hd, sn, sub, ab, col, del⟩ := cd
      dsimp only at hm hdel hdi
      subst hm hdel hdi
      have hsl : sl = #[k0, k1, k2, k3, some (.builtin "ValueError.__new__"), k5] := by
        obtain ⟨l⟩ := sl
        simp only at hs
        rw [hs]
      subst hsl
      exact ⟨nm, qn, ns, bs, bm, sn, sub, ab, col, dd, k0, k1, k2, k3, k5, ho, ht⟩
    · cases h1
  · cases h1
def excB (K : Fr) (C : Addr) : Bool := He.eqO (PySem.W.findIn K (.ref C) "__getattribute__") (some (some (.builtin "BaseException.__getattribute__"))) && (He.eqO (PySem.W.findIn K (.ref C) "__getattr__") (some none) && (decide (PySem.W.subIn K (.ref C) (.type "BaseException") = some true) &&
  (PySem.W.hasDictIn K C && (He.eqO (PySem.W.findIn K (.ref C) "__class__") (some (some (.builtin "object.__class__"))) && (He.eqO (PySem.W.specialIn K (.builtin "object.__class__") "__get__") (some (some (.builtin "getset_descriptor.__get__"))) &&
  (decide (PySem.W.takesIn K (.builtin "object.__class__") = some true) && decide (PySem.W.mroIn K C (.type "object") = some true)))))))
theorem excB_ok {K : Fr} {C : Addr} (h : excB K C = true) : ExcC K C := by
  obtain ⟨h1, h⟩ := He.ba h
  obtain ⟨h2, h⟩ := He.ba h
  obtain ⟨h3, h⟩ := He.ba h
  obtain ⟨h4, h⟩ := He.ba h
  obtain ⟨h5, h⟩ := He.ba h
  obtain ⟨h6, h⟩ := He.ba h
  obtain ⟨h7, h8⟩ := He.ba h
  exact ⟨He.eqO_ok h1, He.eqO_ok h2, of_decide_eq_true h3, h4, He.eqO_ok h5, He.eqO_ok h6, of_decide_eq_true h7, of_decide_eq_true h8⟩
abbrev FnX : Type := Option (Str × Str × Arguments × FuncBody × Scope × Addr × List Str × Addr)
def fnX (K : Fr) (I : Addr) : FnX := match K.lookup I with
  | some ⟨_, _, .func fd, _⟩ => some (fd.name, fd.qualname, fd.params, fd.body, fd.scope, fd.globals, fd.closure.map (·.1), fd.builtins)
  | _ => none
/-- the rest of an __init__: its code, its cell, its default -/
def codeB (K : Fr) (mf : Str) (v : Value) : Bool := match v with
  | .ref c => (match K.lookup c with
    | some ⟨_, _, .fields vs, _⟩ => (match (vs[2]? : Option Value) with
      | some (Value.str file _) => mf == file
      | _ => false)
    | _ => false)
  | _ => false
theorem codeB_ok {K : Fr} {mf : Str} {v : Value} (h : codeB K mf v = true) : ∃ cda ccl cdd vs ccs file tf, v = .ref cda ∧ K.lookup cda = some ⟨ccl, cdd, .fields vs, ccs⟩ ∧ vs[2]? = some (Value.str file tf) ∧ (mf == file) = true := by
  unfold codeB at h
  split at h
  · split at h
    · rename_i z
      split at h
      · rename_i y
        exact ⟨_, _, _, _, _, _, _, rfl, z, y, h⟩
      · cases h
    · cases h
  · cases h
def cellB (K : Fr) (C : Addr) (l : List (Str × Addr)) : Bool := match l with
  | [(_, c)] => (match K.lookup c with
    | some ⟨_, _, .cell (some (.ref b)), _⟩ => decide (b = C)
    | _ => false)
  | _ => false
theorem cellB_ok {K : Fr} {C : Addr} {l : List (Str × Addr)} (h : cellB K C l = true) : ∃ y cc cl cld csl, l = [(y, cc)] ∧ K.lookup cc = some ⟨cl, cld, .cell (some (.ref C)), csl⟩ := by
  unfold cellB at h
  split at h
  · split at h
    · rename_i z
      cases of_decide_eq_true h
      exact ⟨_, _, _, _, _, rfl, z⟩
    · cases h
  · cases h
def dfB (K : Fr) (v : Value) : Bool := match v with
  | .ref T => (match K.lookup T with
    | some ⟨_, _, .seq ⟨[.none]⟩ _, _⟩ => true
    | _ => false)
  | _ => false
theorem dfB_ok {K : Fr} {v : Value} (h : dfB K v = true) : ∃ T tcl tdd n tsl, v = .ref T ∧ K.lookup T = some ⟨tcl, tdd, .seq #[.none] n, tsl⟩ := by
  unfold dfB at h
  split at h
  · split at h
    · rename_i z
      exact ⟨_, _, _, _, _, rfl, z⟩
    · cases h
  · cases h
def nonB (v : Value) : Bool := match v with
  | .none => true
  | _ => false
theorem nonB_ok {v : Value} (h : nonB v = true) : v = .none := by
  unfold nonB at h
  split at h
  · rfl
  · cases h
def iniB (K : Fr) (mf : Str) (C I : Addr) : Bool := match K.lookup I with
  | some ⟨_, _, .func fd, _⟩ => PySem.W.codeIn K fd.code fd.qualname && (codeB K mf fd.code && (cellB K C fd.closure && (dfB K fd.defaults && nonB fd.kwdefaults)))
  | _ => false
/-- an error class's __init__ as the text has it -/
structure ErD where
  cls : Str
  fld : Str
  m : Stmt
def cDef (st : Stmt) : Stmt := match st with
  | .ClassDef _ _ _ (m :: _) _ _ _ _ _ _ _ => m
  | s => s
def ErD.val (d : ErD) : FnX := some (("__init__" : Str), d.cls ++ ".__init__", defArgs d.m, FuncBody.stmts (defBody d.m), defScope d.m, mainGlobals, [("__class__" : Str)], builtinsNs)
def ErD.C (K : Fr) (d : ErD) : Addr := He.ga K d.cls
def ErD.I (K : Fr) (d : ErD) : Addr := He.ma K (d.C K) "__init__"
def ErD.ok (K : Fr) (mf : Str) (d : ErD) : Bool := oexB K (d.C K) && (excB K (d.C K) && (decide (PySem.W.findIn K (.ref (d.C K)) d.fld = some none) && (He.eqO (PySem.W.findIn K (.ref (d.C K)) "__init__") (some (some (.ref (d.I K)))) &&
  (decide (PySem.W.typeIn K (.ref (d.I K)) = some (.type "function")) && (decide (PySem.W.ks_superIn K (d.C K) (d.C K) "__init__" = some (some (.builtin "ValueError.__init__"))) && (decide (PySem.W.mroIn K (d.C K) (.ref (d.C K)) = some true) &&
  (decide (PySem.W.subIn K (.ref (d.C K)) (.type "ValueError") = some true) && (decide (PySem.W.nsIn K cStatics "thirdparty.any" = some none) && iniB K mf (d.C K) (d.I K)))))))))
/-- its text is such a text -/
def ErD.txt (d : ErD) : Prop := Two d.fld ∧ ∃ (p1 p2 p3 q1 q2 q3 q4 q5 q6 r1 r2 r3 r4 : Pos) (k : Nat), defArgs d.m = iArgs d.fld p1 p2 p3 k ∧ defBody d.m = iBody d.fld q1 q2 q3 q4 q5 q6 r1 r2 r3 r4 ∧ defScope d.m = iScope d.fld ∧ (q3.endLine == q5.line) = true
theorem er_ok {P : Program} {K : Fr} {d : ErD} (ht : d.txt) (hs : (P.main.scope.names.lookup ("super" : Str)).isSome = false) (e : fnX K (d.I K) = d.val) (c : d.ok K P.main.file = true) : ErrTxt P K (d.C K) (d.I K) d.fld ∧ ExcC K (d.C K) ∧ ErrCls K (d.C K) d.fld := by
  obtain ⟨c1, c⟩ := He.ba c
  obtain ⟨c2, c⟩ := He.ba c
  obtain ⟨c3, c⟩ := He.ba c
  obtain ⟨c4, c⟩ := He.ba c
  obtain ⟨c5, c⟩ := He.ba c
  obtain ⟨c6, c⟩ := He.ba c
  obtain ⟨c7, c⟩ := He.ba c
  obtain ⟨c8, c⟩ := He.ba c
  obtain ⟨c9, c10⟩ := He.ba c
  have ec := excB_ok c2
  refine ⟨⟨oexB_ok c1, of_decide_eq_true c3, He.eqO_ok c4, of_decide_eq_true c5, of_decide_eq_true c6, of_decide_eq_true c7, of_decide_eq_true c8, of_decide_eq_true c9, hs, ?_⟩, ec, ⟨ec.hg, ec.hk, ec.hs, ec.hd, of_decide_eq_true c3⟩⟩
  obtain ⟨two, p1, p2, p3, q1, q2, q3, q4, q5, q6, r1, r2, r3, r4, k, t1, t2, t3, t4⟩ := ht
  unfold fnX at e
  unfold iniB at c10
  cases q : K.lookup (d.I K) with
  | none => rw [q] at e; cases e
  | some o =>
    obtain ⟨oc, od, dt, osl⟩ := o
    rw [q] at e c10
    cases dt with
    | func fd =>
      obtain ⟨n1, n2, n3, n4, n5, n6, n7, n8, n9, n10, n11, n12, n13, n14, n15⟩ := fd
      have e2 : (n1, n2, n3, n4, n5, n6, n7.map (·.1), n15) = (("__init__" : Str), d.cls ++ ".__init__", defArgs d.m, FuncBody.stmts (defBody d.m), defScope d.m, mainGlobals, [("__class__" : Str)], builtinsNs) := Option.some.inj e
      obtain ⟨h1, e2⟩ := Prod.mk.inj e2
      obtain ⟨h2, e2⟩ := Prod.mk.inj e2
      obtain ⟨h3, e2⟩ := Prod.mk.inj e2
      obtain ⟨h4, e2⟩ := Prod.mk.inj e2
      obtain ⟨h5, e2⟩ := Prod.mk.inj e2
      obtain ⟨h6, e2⟩ := Prod.mk.inj e2
      obtain ⟨h7, h8⟩ := Prod.mk.inj e2
      have c11 : (PySem.W.codeIn K n13 n2 && (codeB K P.main.file n13 && (cellB K (d.C K) n7 && (dfB K n8 && nonB n9)))) = true := c10
      obtain ⟨k1, k2⟩ := He.ba c11
      obtain ⟨k3, k4⟩ := He.ba k2
      obtain ⟨k5, k6⟩ := He.ba k4
      obtain ⟨k7, k8⟩ := He.ba k6
      obtain ⟨cda, ccl, cdd, vs, ccs, file, tf, z0, z1, z2, z3⟩ := codeB_ok k3
      obtain ⟨y, cc, cl, cld, csl, z4, z5⟩ := cellB_ok k5
      obtain ⟨Td, tcl, tdd, n, tsl, z6, z7⟩ := dfB_ok k7
      have z8 := nonB_ok k8
      rw [z4] at h7
      have ey : y = ("__class__" : Str) := List.head_eq_of_cons_eq (show [y] = [("__class__" : Str)] from h7)
      rw [ey] at z4
      rw [t1] at h3
      rw [t2] at h4
      rw [t3] at h5
      rw [z0] at k1
      have q0 := q
      rw [h1, h3, h4, h5, h6, z4, z6, z8, z0, h8] at q0
      exact ⟨n2, oc, n10, n11, n14, cl, ccl, tcl, od, n12, cdd, cld, tdd, osl, ccs, csl, tsl, p1, p2, p3, q1, q2, q3, q4, q5, q6, r1, r2, r3, r4, k, Td, cda, cc, vs, file, tf, n, q.symm.trans q0, k1, two, t4, z1, z2, z3, z5, z7⟩
    | _ => cases e
end Hd
set_option Elab.async false
set_option linter.all false
set_option maxRecDepth 100000
set_option maxHeartbeats 0
/-! the head: facts by names, the run, the end -/
namespace K1
open PySem PySem.Spec PyProof.Rows L2 Gd Er
abbrev Pg : Program := PySem.Challenge.pw_callersrights_k01_errors
def nm : List Str := ["InvalidNumber", "InvalidList", "InvalidItem", "InvalidWord", "InvalidProgram", "InvalidPlace", "InvalidRun", "InvalidText", "InvalidName", "TakenName", "UnknownName", "NothingToUndo"]
def Cs (K : PySem.W.Frag) (k : Nat) : Addr := He.ga K (nm.getD k "")
def fIs (K : PySem.W.Frag) (k : Nat) : Addr := He.ma K (Cs K k) "__init__"
def er0 : Hd.ErD := ⟨"InvalidNumber", "value", Hd.cDef (top 2)⟩
def er1 : Hd.ErD := ⟨"InvalidList", "value", Hd.cDef (top 3)⟩
def er2 : Hd.ErD := ⟨"InvalidItem", "value", Hd.cDef (top 4)⟩
def er3 : Hd.ErD := ⟨"InvalidWord", "value", Hd.cDef (top 5)⟩
def er4 : Hd.ErD := ⟨"InvalidProgram", "value", Hd.cDef (top 6)⟩
def er5 : Hd.ErD := ⟨"InvalidPlace", "value", Hd.cDef (top 7)⟩
def er6 : Hd.ErD := ⟨"InvalidRun", "value", Hd.cDef (top 8)⟩
def er7 : Hd.ErD := ⟨"InvalidText", "value", Hd.cDef (top 9)⟩
def er8 : Hd.ErD := ⟨"InvalidName", "name", Hd.cDef (top 10)⟩
def er9 : Hd.ErD := ⟨"TakenName", "name", Hd.cDef (top 11)⟩
def er10 : Hd.ErD := ⟨"UnknownName", "name", Hd.cDef (top 12)⟩
def errD : List Hd.ErD := [er0, er1, er2, er3, er4, er5, er6, er7, er8, er9, er10]
theorem txt0 : er0.txt := ⟨.inl rfl, _, _, _, _, _, _, _, _, _, _, _, _, _, _, rfl, rfl, rfl, rfl⟩
theorem txt1 : er1.txt := ⟨.inl rfl, _, _, _, _, _, _, _, _, _, _, _, _, _, _, rfl, rfl, rfl, rfl⟩
theorem txt2 : er2.txt := ⟨.inl rfl, _, _, _, _, _, _, _, _, _, _, _, _, _, _, rfl, rfl, rfl, rfl⟩
theorem txt3 : er3.txt := ⟨.inl rfl, _, _, _, _, _, _, _, _, _, _, _, _, _, _, rfl, rfl, rfl, rfl⟩
theorem txt4 : er4.txt := ⟨.inl rfl, _, _, _, _, _, _, _, _, _, _, _, _, _, _, rfl, rfl, rfl, rfl⟩
theorem txt5 : er5.txt := ⟨.inl rfl, _, _, _, _, _, _, _, _, _, _, _, _, _, _, rfl, rfl, rfl, rfl⟩
theorem txt6 : er6.txt := ⟨.inl rfl, _, _, _, _, _, _, _, _, _, _, _, _, _, _, rfl, rfl, rfl, rfl⟩
theorem txt7 : er7.txt := ⟨.inl rfl, _, _, _, _, _, _, _, _, _, _, _, _, _, _, rfl, rfl, rfl, rfl⟩
theorem txt8 : er8.txt := ⟨.inr rfl, _, _, _, _, _, _, _, _, _, _, _, _, _, _, rfl, rfl, rfl, rfl⟩
theorem txt9 : er9.txt := ⟨.inr rfl, _, _, _, _, _, _, _, _, _, _, _, _, _, _, rfl, rfl, rfl, rfl⟩
theorem txt10 : er10.txt := ⟨.inr rfl, _, _, _, _, _, _, _, _, _, _, _, _, _, _, rfl, rfl, rfl, rfl⟩
def d_law_cell : He.DefD := ⟨("_law_cell", none), "_law_cell", "_law_cell", defArgs s_law_cell, defBody s_law_cell, defScope s_law_cell, [], []⟩
def d_law_hash : He.DefD := ⟨("_law_hash", none), "_law_hash", "_law_hash", defArgs s_law_hash, defBody s_law_hash, defScope s_law_hash, [], []⟩
def d_law_generator : He.DefD := ⟨("_law_generator", none), "_law_generator", "_law_generator", defArgs s_law_generator, defBody s_law_generator, defScope s_law_generator, [], []⟩
def d_law_random : He.DefD := ⟨("_law_random", none), "_law_random", "_law_random", defArgs s_law_random, defBody s_law_random, defScope s_law_random, [], []⟩
def d_law_kinds : He.DefD := ⟨("_law_kinds", none), "_law_kinds", "_law_kinds", defArgs s_law_kinds, defBody s_law_kinds, defScope s_law_kinds, [], []⟩
def d_law_right : He.DefD := ⟨("_law_right", none), "_law_right", "_law_right", defArgs s_law_right, defBody s_law_right, defScope s_law_right, [], []⟩
def d_law_placed : He.DefD := ⟨("_law_placed", none), "_law_placed", "_law_placed", defArgs s_law_placed, defBody s_law_placed, defScope s_law_placed, [], []⟩
def d_law_named : He.DefD := ⟨("_law_named", none), "_law_named", "_law_named", defArgs s_law_named, defBody s_law_named, defScope s_law_named, [], []⟩
def d_law_bare : He.DefD := ⟨("_law_bare", none), "_law_bare", "_law_bare", defArgs s_law_bare, defBody s_law_bare, defScope s_law_bare, [], []⟩
def d_law : He.DefD := ⟨("law", none), "law", "law", defArgs s_law, defBody s_law, defScope s_law, [], []⟩
def fn : List He.DefD := [d_law_cell, d_law_hash, d_law_generator, d_law_random, d_law_kinds, d_law_right, d_law_placed, d_law_named, d_law_bare, d_law]
def fa : List He.Fa := [.glo "InvalidNumber", .glo "InvalidList", .glo "InvalidItem", .glo "InvalidWord", .glo "InvalidProgram", .glo "InvalidPlace", .glo "InvalidRun", .glo "InvalidText", .glo "InvalidName", .glo "TakenName", .glo "UnknownName", .glo "NothingToUndo", .glo "RightsError", .glo "_law_cell", .glo "_law_hash", .glo "_law_generator", .glo "_law_random", .glo "_law_kinds", .glo "_law_right", .glo "_law_placed", .glo "_law_named", .glo "_law_bare", .glo "law", .free "len", .free "int", .free "max", .free "range", .free "super", .free "isinstance", .free "ValueError", .free "list", .free "dict", .free "repr"]
def kitB (K : PySem.W.Frag) : Bool := (List.range 12).all fun k => decide (PySem.W.kitOne K (.ref (Cs K k)) (.ref (He.ga K "RightsError")) = some true) && (decide (PySem.W.kitOne K (.ref (Cs K k)) (.type "ValueError") = some true) &&
  (List.range 12).all fun j => decide (PySem.W.kitOne K (.ref (Cs K k)) (.ref (Cs K j)) = some (decide (k = j))))
def modB (K : PySem.W.Frag) : Bool := match K.lookup sysModules with
  | some ⟨.type c, _, _, _⟩ => decide (c = "dict")
  | _ => false
def xB (K : PySem.W.Frag) : Bool := (errD.all fun d => d.ok K Pg.main.file) && (Hd.oexB K (Cs K 11) && (Hd.excB K (Cs K 11) && (He.eqO (PySem.W.findIn K (.ref (Cs K 11)) "__init__") (some (some (.builtin "ValueError.__init__"))) && (kitB K && modB K))))
abbrev Ob : Type := He.AlD × Bool × List Hd.FnX
def obs1 (K : PySem.W.Frag) : Ob := (He.obsD fa fn K, xB K, errD.map fun d => Hd.fnX K (d.I K))
def val1 : Ob := (He.valD fn, true, errD.map Hd.ErD.val)
def fr1 (g : Addr → Option Obj) : PySem.W.Frag := He.frG g (sysModules :: cStatics :: He.asD g 6)
def hk : PySem.W.Hook where
  α := Ob
  obs := fun s => obs1 (fr1 s.heap.get?)
  val := fun _ => val1
  says := fun _ h => ∃ K : PySem.W.Frag, K.In h ∧ obs1 K = val1
  of := fun _ _ e => ⟨_, He.frG_in, e⟩
  keeps := fun _ _ _ ⟨K, hK, c⟩ k => ⟨K, PySem.W.Frag.In.keeps hK k, c⟩
abbrev R : PySem.W.OpenRow := PySem.W.OpenLaw.row PySem.Challenge.rw_callersrights_k01_errors
def ob (s : PySem.W.SharedT) : Ob := obs1 (fr1 (HandSHeadRun.getT s))
theorem ob_eq (s : PySem.W.SharedT) : ob s = hk.obs s.abs := by
  have e : HandSHeadRun.getT s = s.abs.heap.get? := funext (HandSHeadRun.getT_eq s)
  show obs1 (fr1 (HandSHeadRun.getT s)) = obs1 (fr1 s.abs.heap.get?)
  rw [e]
abbrev loose : List Str := ["RightsError", "InvalidNumber", "InvalidList", "InvalidItem", "InvalidWord", "InvalidProgram", "InvalidPlace", "InvalidRun", "InvalidText", "InvalidName", "TakenName", "UnknownName", "NothingToUndo", "_law_cell", "_law_hash", "_law_generator", "_law_random", "_law_kinds", "_law_right", "_law_placed", "_law_named", "_law_bare"]
theorem run (w : World) : HandSHeadRun.RunEq R (PySem.W.view R.prog [24]) hk ob 4000 loose w := by
  intro os
  kernel_rfl
section
variable {P : Program} {K : PySem.W.Frag} {h : Heap} {mg : Str → Option Value}
theorem says_x (c : obs1 K = val1) : xB K = true := congrArg (fun z : Ob => z.2.1) c
theorem says_d (c : obs1 K = val1) : He.SaysD fa fn K := congrArg (fun z : Ob => z.1) c
theorem says_m (c : obs1 K = val1) (X : K.In h) : Mods h := by
  obtain ⟨_, q⟩ := He.ba (says_x c)
  obtain ⟨_, q⟩ := He.ba q
  obtain ⟨_, q⟩ := He.ba q
  obtain ⟨_, q⟩ := He.ba q
  obtain ⟨_, q⟩ := He.ba q
  unfold modB at q
  split at q
  · rename_i z
    exact ⟨_, X _ _ z, congrArg Value.type (of_decide_eq_true q)⟩
  · cases q
theorem says_e (c : obs1 K = val1) {i : Nat} {d : Hd.ErD} (hd : errD[i]? = some d) (ht : d.txt) : ErrTxt Pg K (d.C K) (d.I K) d.fld ∧ ExcC K (d.C K) ∧ ErrCls K (d.C K) d.fld := by
  have e : errD.map (fun d => Hd.fnX K (d.I K)) = errD.map Hd.ErD.val := congrArg (fun z : Ob => z.2.2) c
  have e2 : (errD.map fun d => Hd.fnX K (d.I K))[i]? = (errD.map Hd.ErD.val)[i]? := by rw [e]
  rw [List.getElem?_map, List.getElem?_map, hd] at e2
  obtain ⟨q, _⟩ := He.ba (says_x c)
  exact Hd.er_ok ht rfl (Option.some.inj e2) (List.all_eq_true.mp q d (List.mem_of_getElem? hd))
theorem facts (X : K.In h) (G : h.Ns mainGlobals mg) (c : obs1 K = val1) : ErrsT Pg K mg (Cs K) (fIs K) (He.ga K "RightsError") ∧ TxtD mg := by
  have cd := says_d c
  obtain ⟨_, q⟩ := He.ba (says_x c)
  obtain ⟨q1, q⟩ := He.ba q
  obtain ⟨q2, q⟩ := He.ba q
  obtain ⟨q3, q⟩ := He.ba q
  obtain ⟨q4, _⟩ := He.ba q
  have kt : ∀ k, k < 12 → _ := fun k hk => List.all_eq_true.mp q4 k (List.mem_range.mpr hk)
  have t0 := says_e c (i := 0) (d := er0) rfl txt0
  have t1 := says_e c (i := 1) (d := er1) rfl txt1
  have t2 := says_e c (i := 2) (d := er2) rfl txt2
  have t3 := says_e c (i := 3) (d := er3) rfl txt3
  have t4 := says_e c (i := 4) (d := er4) rfl txt4
  have t5 := says_e c (i := 5) (d := er5) rfl txt5
  have t6 := says_e c (i := 6) (d := er6) rfl txt6
  have t7 := says_e c (i := 7) (d := er7) rfl txt7
  have t8 := says_e c (i := 8) (d := er8) rfl txt8
  have t9 := says_e c (i := 9) (d := er9) rfl txt9
  have t10 := says_e c (i := 10) (d := er10) rfl txt10
  refine ⟨{
    g_InvalidNumber := He.glo_ok X G (cd.fact 0 (f := .glo "InvalidNumber") rfl)
    g_InvalidList := He.glo_ok X G (cd.fact 1 (f := .glo "InvalidList") rfl)
    g_InvalidItem := He.glo_ok X G (cd.fact 2 (f := .glo "InvalidItem") rfl)
    g_InvalidWord := He.glo_ok X G (cd.fact 3 (f := .glo "InvalidWord") rfl)
    g_InvalidProgram := He.glo_ok X G (cd.fact 4 (f := .glo "InvalidProgram") rfl)
    g_InvalidPlace := He.glo_ok X G (cd.fact 5 (f := .glo "InvalidPlace") rfl)
    g_InvalidRun := He.glo_ok X G (cd.fact 6 (f := .glo "InvalidRun") rfl)
    g_InvalidText := He.glo_ok X G (cd.fact 7 (f := .glo "InvalidText") rfl)
    g_InvalidName := He.glo_ok X G (cd.fact 8 (f := .glo "InvalidName") rfl)
    g_TakenName := He.glo_ok X G (cd.fact 9 (f := .glo "TakenName") rfl)
    g_UnknownName := He.glo_ok X G (cd.fact 10 (f := .glo "UnknownName") rfl)
    g_NothingToUndo := He.glo_ok X G (cd.fact 11 (f := .glo "NothingToUndo") rfl)
    g_RightsError := He.glo_ok X G (cd.fact 12 (f := .glo "RightsError") rfl)
    e_InvalidNumber := t0.1
    e_InvalidList := t1.1
    e_InvalidItem := t2.1
    e_InvalidWord := t3.1
    e_InvalidProgram := t4.1
    e_InvalidPlace := t5.1
    e_InvalidRun := t6.1
    e_InvalidText := t7.1
    e_InvalidName := t8.1
    e_TakenName := t9.1
    e_UnknownName := t10.1
    x_NothingToUndo := Hd.oexB_ok q1
    i_NothingToUndo := He.eqO_ok q3
    exc := fun k hk => match k, hk with
      | 0, _ => t0.2.1
      | 1, _ => t1.2.1
      | 2, _ => t2.2.1
      | 3, _ => t3.2.1
      | 4, _ => t4.2.1
      | 5, _ => t5.2.1
      | 6, _ => t6.2.1
      | 7, _ => t7.2.1
      | 8, _ => t8.2.1
      | 9, _ => t9.2.1
      | 10, _ => t10.2.1
      | 11, _ => Hd.excB_ok q2
    cl := fun k hk => match k, hk with
      | 0, _ => t0.2.2
      | 1, _ => t1.2.2
      | 2, _ => t2.2.2
      | 3, _ => t3.2.2
      | 4, _ => t4.2.2
      | 5, _ => t5.2.2
      | 6, _ => t6.2.2
      | 7, _ => t7.2.2
      | 8, _ => t8.2.2
      | 9, _ => t9.2.2
      | 10, _ => t10.2.2
    kit := fun k j hk hj => of_decide_eq_true (List.all_eq_true.mp (He.ba (He.ba (kt k hk)).2).2 j (List.mem_range.mpr hj))
    kitR := fun k hk => of_decide_eq_true (He.ba (kt k hk)).1
    kitV := fun k hk => of_decide_eq_true (He.ba (He.ba (kt k hk)).2).1
    m_super := He.free_ok X G (cd.fact 27 (f := .free "super") rfl)
    m_isinstance := He.free_ok X G (cd.fact 28 (f := .free "isinstance") rfl)
    m_ValueError := He.free_ok X G (cd.fact 29 (f := .free "ValueError") rfl)
    m_list := He.free_ok X G (cd.fact 30 (f := .free "list") rfl)
    m_dict := He.free_ok X G (cd.fact 31 (f := .free "dict") rfl)
    m_repr := He.free_ok X G (cd.fact 32 (f := .free "repr") rfl)
    m_range := He.free_ok X G (cd.fact 26 (f := .free "range") rfl)
  }, {m_len := He.free_ok X G (cd.fact 23 (f := .free "len") rfl), m_int := He.free_ok X G (cd.fact 24 (f := .free "int") rfl), m_max := He.free_ok X G (cd.fact 25 (f := .free "max") rfl), m_range := He.free_ok X G (cd.fact 26 (f := .free "range") rfl)}⟩
theorem walk {w : World} {fa0 : Addr} (X : K.In h) (G : h.Ns mainGlobals mg) (hl : mg "law" = some (.ref fa0)) (c : obs1 K = val1) :
    ∃ fd : FuncData, (∀ (s : Shared) (u : Value), BindsTo s fd ⟨[u], []⟩ [("script", u)]) ∧ ∀ base : Heap, K.In base → base.Ns mainGlobals mg → Mods base → FG Pg w K mg base CX0 5 fa0 fd ["script"] (sp_law K) := by
  have cd := says_d c
  obtain ⟨fd0, F0⟩ := cd.def_ 0 (d := d_law_cell) rfl
  obtain ⟨fd1, F1⟩ := cd.def_ 1 (d := d_law_hash) rfl
  obtain ⟨fd2, F2⟩ := cd.def_ 2 (d := d_law_generator) rfl
  obtain ⟨fd3, F3⟩ := cd.def_ 3 (d := d_law_random) rfl
  obtain ⟨fd4, F4⟩ := cd.def_ 4 (d := d_law_kinds) rfl
  obtain ⟨fd5, F5⟩ := cd.def_ 5 (d := d_law_right) rfl
  obtain ⟨fd6, F6⟩ := cd.def_ 6 (d := d_law_placed) rfl
  obtain ⟨fd7, F7⟩ := cd.def_ 7 (d := d_law_named) rfl
  obtain ⟨fd8, F8⟩ := cd.def_ 8 (d := d_law_bare) rfl
  obtain ⟨fd9, F9⟩ := cd.def_ 9 (d := d_law) rfl
  have e := hl.symm.trans (He.glo_ok X G (cd.fact 22 (f := .glo "law") rfl))
  cases e
  refine ⟨fd9, fun s v => (FunD.bindsA (ps := ["script"]) F9 fun _ _ _ _ _ _ us hl => match us, hl with | [_], _ => rfl) s [v] rfl, fun base _ _ hB => ?_⟩
  obtain ⟨T, D⟩ := facts X G c
  exact ok_law F9 F0 F1 F2 F3 F4 F5 F6 F7 F8 (He.glo_ok X G (cd.fact 13 (f := .glo "_law_cell") rfl)) (He.glo_ok X G (cd.fact 14 (f := .glo "_law_hash") rfl)) (He.glo_ok X G (cd.fact 15 (f := .glo "_law_generator") rfl)) (He.glo_ok X G (cd.fact 16 (f := .glo "_law_random") rfl)) (He.glo_ok X G (cd.fact 17 (f := .glo "_law_kinds") rfl)) (He.glo_ok X G (cd.fact 18 (f := .glo "_law_right") rfl)) (He.glo_ok X G (cd.fact 19 (f := .glo "_law_placed") rfl)) (He.glo_ok X G (cd.fact 20 (f := .glo "_law_named") rfl)) (He.glo_ok X G (cd.fact 21 (f := .glo "_law_bare") rfl)) D T hB
end
end K1
open PySem PySem.W PySem.Calls PyProof.Rows
theorem PySem.Challenge.cw_callersrights_k01_errors_holds : PySem.Challenge.rw_callersrights_k01_errors.Holds := by
  w_on; o_law
  refine HandSHeadRun.head_any (r := OpenLaw.row PySem.Challenge.rw_callersrights_k01_errors) (q := view (OpenLaw.row PySem.Challenge.rw_callersrights_k01_errors).prog [24]) (H := K1.hk) (ob := K1.ob) (M := 4000) (loose := K1.loose) (d := HandSHeadRun.topDef (OpenLaw.row PySem.Challenge.rw_callersrights_k01_errors).prog 24) (kwd := []) K1.ob_eq
    (by kernel_rfl) (fun s => by kernel_rfl) K1.run (by kernel_rfl) (by kernel_rfl) (by kernel_rfl) (by rfl) (by first | assumption | decide +kernel) (by decide +kernel) ⟨rfl, rfl, rfl, rfl, rfl, by decide +kernel⟩ ?hw ?hc
  case hw => w_witness2
  case hc =>
    refine Gd.walk_ofG (l := PySem.Challenge.rw_callersrights_k01_errors) (n := 63) (k := 5) (x := "script") rfl (by decide) (by kernel_rfl) ⟨rfl, by decide, by decide⟩ ?F
    intro w mg fa h Y G hmg0
    obtain ⟨K, KX, c⟩ := Y
    have hmg : mg ("law" : PySem.Str) = some (.ref fa) := by
      have e : (HandSHeadRun.topDef (OpenLaw.row PySem.Challenge.rw_callersrights_k01_errors).prog 24).name = ("law" : PySem.Str) := by kernel_rfl
      rw [← e]
      exact hmg0
    obtain ⟨fd, hb, hF⟩ := K1.walk (w := w) KX G hmg c
    exact ⟨K, fd, K1.sp_law K, KX, K1.says_m c KX, hb, fun H a ns hl _ hS => ⟨a, ns, rfl, hS, fun _ => rfl⟩, hF⟩
