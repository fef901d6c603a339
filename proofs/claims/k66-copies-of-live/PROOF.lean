import PyProof.Rows.All
import Wide.All
import OpenK.AllK
import Wide.FinOn
import KE.KExcSuper
import HandS.ForMost
import HandS.Exc
import HandS.ExcInit
import HandS.ExcIs
import HandS.Defaults
import KE.KExcIs
import KE.KExcMake
import HandS.IsInst
import PyProof.ReprRoads
import HandS.HeadEnd
import HandS.WideBits
import HandS.Style
import HandS.Iter
import HandS.Walk
import HandS.More
import HandS.Text
import HandS.Strs
import PyProof.EqAt
import HandS.OwnEq
import PyProof.InstNe
import PyProof.Rows.SeqMore
import PyProof.NeKinds
import HandS.TryOnly
import HandS.ExcOwn
import HandS.Hot
import HandS.HotCalls
import HandS.ExcCtx
import HandS.WordsExc
import HandS.HeadHook1
import HandS.HeadHook2
import HandS.Wide
import KE.KStateDown
import HandS.Head0
import HandS.Head1
import HandS.Head2
import PySem.Challenge.RW_callersrights_k66_whole_copies_of_live_p
set_option Elab.async false
set_option linter.all false
set_option maxRecDepth 100000
set_option maxHeartbeats 4000000
/-! ErrA: the package's error classes: the object made by the class's call (by position, by name, without), its field read, isinstance of it. -/
namespace Er
open PySem PySem.W PySem.Calls PyProof.Rows PySem.HandSPX

/-! ### the text of an error's __init__ -/
def iArgs (fld : Str) (p1 p2 p3 : Pos) (k : Nat) : Arguments :=
  { posonlyargs := [], args := [{ arg := "self", annotation := none, pos := p1 }, { arg := fld, annotation := none, pos := p2 }], vararg := none, kwonlyargs := [], kw_defaults := [], kwarg := none, defaults := [.Constant .none k p3] }
def iBody (fld : Str) (q1 q2 q3 q4 q5 q6 r1 r2 r3 r4 : Pos) : List Stmt :=
  [.Expr (.Call (.Attribute (.Call (.Name "super" q1) [] [] q2) "__init__" q3) [.Name fld q4] [] q5) q6,
   .Assign [.Attribute (.Name "self" r1) fld r2] (.Name fld r3) r4]
def iScope (fld : Str) : Scope := { kind := .function, names := [(("self" : Str), .local), (fld, .local), (("__class__" : Str), .free), (("super" : Str), .globalImplicit)], isGenerator := false, isCoroutine := false, more := [] }
/-- the two names of fields -/
def Two (fld : Str) : Prop := fld = ("value" : Str) ∨ fld = ("name" : Str)

/-- what the written part says of an error class at C whose field is fld -/
structure ErrTxt (P : Program) (K : Frag) (C fI : Addr) (fld : Str) : Prop where
  ox : L2.OexC K C
  noN : findIn K (.ref C) fld = some none
  iC : findIn K (.ref C) "__init__" = some (some (.ref fI))
  tI : typeIn K (.ref fI) = some (.type "function")
  sup : ks_superIn K C C "__init__" = some (some (.builtin "ValueError.__init__"))
  sub : mroIn K C (.ref C) = some true
  subVE : subIn K (.ref C) (.type "ValueError") = some true
  opq : nsIn K cStatics "thirdparty.any" = some none
  top : (P.main.scope.names.lookup ("super" : Str)).isSome = false
  fn : ∃ (q : Str) (oc doc pm ct cl ccl tcl : Value) (od an cdd cld tdd : Option Addr) (osl ccs csl tsl : Array (Option Value)) (p1 p2 p3 q1 q2 q3 q4 q5 q6 r1 r2 r3 r4 : Pos) (k : Nat) (T cda cc : Addr) (vs : Array Value) (file : Str) (tf : Tok) (n : Nat),
    K.lookup fI = some ⟨oc, od, .func (ksFn "__init__" q (iArgs fld p1 p2 p3 k) (iBody fld q1 q2 q3 q4 q5 q6 r1 r2 r3 r4) (iScope fld) (.ref T) .none doc pm an (.ref cda) ct cc), osl⟩ ∧
    codeIn K (.ref cda) q = true ∧ Two fld ∧ (q3.endLine == q5.line) = true ∧
    K.lookup cda = some ⟨ccl, cdd, .fields vs, ccs⟩ ∧ vs[2]? = some (.str file tf) ∧ ((P.main.file : Str) == file) = true ∧
    K.lookup cc = some ⟨cl, cld, .cell (some (.ref C)), csl⟩ ∧
    K.lookup T = some ⟨tcl, tdd, .seq #[.none] n, tsl⟩

/-- the ways an error is called: by position, by name, without -/
inductive Given (fld : Str) (v : Value) : List Value → List (Str × Value) → Prop
  | pos : Given fld v [v] []
  | kw : Given fld v [] [(fld, v)]
  | non : v = .none → Given fld v [] []
theorem Given.len {fld : Str} {v : Value} {ps : List Value} {kw : List (Str × Value)} (g : Given fld v ps kw) : ps.length ≤ sizeLine := by
  cases g with
  | pos => rw [sizeLine_eq]; exact (by decide : 1 ≤ 16777216)
  | kw => rw [sizeLine_eq]; exact (by decide : 0 ≤ 16777216)
  | non _ => rw [sizeLine_eq]; exact (by decide : 0 ≤ 16777216)

/-- what is left of a new error at x: its own dict at dx -/
structure Born (h h' : Heap) (x C dx t1 : Addr) (fld : Str) (v : Value) : Prop where
  keep : ∀ b o, b ≠ x → h.get? b = some o → h'.get? b = some o
  obj : h'.get? x = some { cls := .ref C, dict := some dx, data := .fields #[.ref t1, .none, .none, .none, .bool false, .none] }
  dbig : h.objs.size ≤ dx
  dne : dx ≠ x
  ns : h'.Ns1 dx (fun y => if y = fld then some v else none)

section
variable {prog : Program} {w : World} {A : Around} {E : Value → Shared → Prop} {R : Result → Shared → Prop} {s : Shared} {K : Frag} {mg mb : Str → Option Value} {C fI : Addr} {fld : Str}

/-- ValueError.__init__ bound to x, called -/
theorem call_mw {hp : Heap} {g : Array GenState} {d : Drawn} {t : Nat} {os : OsState} {u e t0 : Addr} {rest : List Value} {Q : Value → Shared → Prop} (T : L2.OexC K C) (X : K.In hp)
    (he : hp.get? e = some (excO C t0)) (hu : hp.get? u = some (kxs_mw "ValueError.__init__" e)) (hz : rest.length ≤ sizeLine)
    (hq : ∀ h' t1, (∀ b o, b ≠ e → hp.get? b = some o → h'.get? b = some o) → h'.get? e = some (excO C t1) → Q .none ⟨h', g, d, t, os⟩) :
    wpAny (model prog w) A (call (.ref u) rest) Q E ⟨hp, g, d, t, os⟩ := by
  obtain ⟨nm, q, N, bs, bm, sn, sub, ab, col, dd, k0, k1, k2, k3, k5, hC, hbm⟩ := T.cls
  refine wpAny_call (codeAny_of_tree ?_)
  show wpAny _ A.in1 (callAny (.ref u) ⟨rest, []⟩) _ _ _
  simp only [callAny]
  refine wpAny_bind (wpAny_load hu ?_)
  simp only [kxs_mw, show (Value.type "method-wrapper" == Value.type "method" || Value.type "method-wrapper" == Value.type "builtin_function_or_method" || Value.type "method-wrapper" == Value.type "method-wrapper") = true by decide, if_true]
  refine KFB.if_so (by decide) ?_
  refine wpAny_bind (check_bound_init F.excBase_ValueError.toExcCallFacts (X _ _ hC) he rfl ?_)
  refine wpAny_bind (wpAny_pure (wpAny_pure ?_))
  refine ⟨plainId_quiet F.excBase_ValueError.init.plain _, codeAny_builtin F.excBase_ValueError.initEntry ?_⟩
  exact exc_init_tree (cls := .ref C) (t0 := t0) (dv := none) (c2 := .none) (c3 := .none) (b4 := .bool false) he hz fun h' k1 k2 k3 => hq h' _ k1 k2

theorem bind_err {x : Addr} {v : Value} {ps : List Value} {kw : List (Str × Value)} {q : Str} {p1 p2 p3 : Pos} {k : Nat} {body : List Stmt} {sc : Scope} {Td cc : Addr} {doc pm cdv ct tcl : Value} {an tdd : Option Addr} {n : Nat} {tsl : Array (Option Value)}
    (two : Two fld) (X : K.In s.heap) (hT : K.lookup Td = some ⟨tcl, tdd, .seq #[.none] n, tsl⟩) (G : Given fld v ps kw) :
    BindsTo s (ksFn "__init__" q (iArgs fld p1 p2 p3 k) body sc (.ref Td) .none doc pm an cdv ct cc) ⟨.ref x :: ps, kw⟩ [(("self" : Str), .ref x), (fld, v)] := by
  rcases two with rfl | rfl
  all_goals
    cases G with
    | pos => exact BindsTo.of_defaults rfl (X _ _ hT) rfl rfl rfl
    | kw => exact BindsTo.of_defaults rfl (X _ _ hT) rfl rfl rfl
    | non e => subst e; exact BindsTo.of_defaults rfl (X _ _ hT) rfl rfl rfl

theorem no_cell (two : Two fld) : ∀ x ∈ (iScope fld).names, x.2 ≠ .cell := by
  rcases two with e | e <;> (subst e; decide +kernel)
/-- the call super().__init__(fld), read -/
theorem super_call (two : Two fld) {env : Env} {q1 q2 q3 q4 q5 : Pos} (hl : (q3.endLine == q5.line) = true) :
    eval (.Call (.Attribute (.Call (.Name "super" q1) [] [] q2) "__init__" q3) [.Name fld q4] [] q5) env = (do
      let ov ← attributeBase (.Call (.Name "super" q1) [] [] q2) "__init__" env (eval (.Call (.Name "super" q1) [] [] q2) env)
      standAt q3.atName
      let (f, first) ← holding [ov] (getMethod ov "__init__" (do return (← importBound (.Call (.Name "super" q1) [] [] q2) env).getD true))
      callWith q5 f first (backTo q5 (starEach [.Name fld q4] env)) []) := by
  have hm : methodCallPos true (.Call (.Name "super" q1) [] [] q2) env q3 q5 = pure q5 := by
    unfold methodCallPos
    rw [hl]
    rfl
  show (do
      let ov ← attributeBase (.Call (.Name "super" q1) [] [] q2) "__init__" env (eval (.Call (.Name "super" q1) [] [] q2) env)
      standAt q3.atName
      let (f, first) ← holding [ov] (getMethod ov "__init__" (do return (← importBound (.Call (.Name "super" q1) [] [] q2) env).getD true))
      let callPos ← methodCallPos true (.Call (.Name "super" q1) [] [] q2) env q3 q5
      callWith callPos f first (backTo q5 (starEach [.Name fld q4] env)) []) = _
  rw [hm]
  simp only [pure_bind]

theorem err_init {P : Program} {x t0 : Addr} {v : Value} {ps : List Value} {kw : List (Str × Value)} (T : ErrTxt P K C fI fld) (G : Given fld v ps kw) (X : K.In s.heap) (hns : s.heap.Ns mainGlobals mg) (hms : mg "super" = none) (hbt : s.heap.Ns builtinsNs mb)
    (hbb : mb "super" = some (.type "super")) (hlim : s.heap.NoLimit) (hx : s.heap.get? x = some (excO C t0)) (hnx : K.lookup x = none) (hroom : A.depth < recursionLimit)
    (hq : ∀ h' tk dx t1, Born s.heap h' x C dx t1 fld v → R (.ok (.ret .none)) { s with heap := h', toks := tk }) :
    codeAny (model P w) A (.call (.ref fI) ⟨.ref x :: ps, kw⟩) R s := by
  obtain ⟨q, oc, doc, pm, ct, cl, ccl, tcl, od, an, cdd, cld, tdd, osl, ccs, csl, tsl, p1, p2, p3, q1, q2, q3, q4, q5, q6, r1, r2, r3, r4, k, Td, cda, cc, vs, file, tf, n, ho, hcd, S, hl, hcda, hvs, hfile, hcell, hT⟩ := T.fn
  obtain ⟨nm, qn, N, bs, bm, sn, sub, ab, col, dd, k0, k1, k2, k3, k5, hC, hbm⟩ := T.ox.cls
  have hcl : clsIn K C = some { name := nm, bases := bs, mro := .ref C :: bm, ns := N, qualname := qn, hasDict := true, slotNames := sn, subclasses := sub, abstract := ab, collection := col, hasDel := false } := by unfold clsIn; rw [hC] <;> rfl
  have hb := bind_err (x := x) (q := q) (p1 := p1) (p2 := p2) (p3 := p3) (k := k) (body := iBody fld q1 q2 q3 q4 q5 q6 r1 r2 r3 r4) (sc := iScope fld) (cc := cc) (doc := doc) (pm := pm) (cdv := .ref cda) (ct := ct) (an := an) S X hT G
  have nes : fld ≠ ("self" : Str) := by rcases S with e | e <;> (rw [e]; decide)
  have ndb : (fld == ("__debug__" : Str)) = false := by rcases S with e | e <;> (rw [e]; decide)
  have lS : ([(("self" : Str), Value.ref x), (fld, v)] : List (Str × Value)).reverse.lookup ("self" : Str) = some (.ref x) := by
    rcases S with e | e <;> (rw [e]; rfl)
  have lF : ([(("self" : Str), Value.ref x), (fld, v)] : List (Str × Value)).reverse.lookup fld = some v := by
    rcases S with e | e <;> (rw [e]; rfl)
  have kS : (iScope fld).names.lookup ("self" : Str) = some .local := rfl
  have kF : (iScope fld).names.lookup fld = some .local := by rcases S with e | e <;> (rw [e]; rfl)
  refine ks_codeAny_call_defAt hroom (X _ _ ho) rfl hlim (codeRec_of X hcd) rfl hb (no_cell S) (fun y hy => ?_) (fun h₁ hn k => ?_) rfl rfl rfl
  · rcases List.mem_cons.mp hy with e | hy
    · rw [e]; exact kS
    · rw [List.mem_singleton.mp hy]; exact kF
  have X1 : K.In h₁ := X.keeps k
  have hx1 := k _ _ hx
  show PySem.wpAt _ _ (.func _ (ksEnv q (iScope fld) s.heap.objs.size fI (.ref cda) cc)) (execs (_ :: _) (ksEnv q (iScope fld) s.heap.objs.size fI (.ref cda) cc)) _ _ _
  refine ks_wpAt_execs_cons (ks_wpAt_Expr_any (ks_wpAt_MethodCall ?_ (super_call S hl)))
  refine ks_wpAt_super_base (env := ksEnv q (iScope fld) s.heap.objs.size fI (.ref cda) cc) (by rcases S with e | e <;> (rw [e]; rfl)) (by rcases S with e | e <;> (rw [e]; rfl)) (by decide) rfl (X1 _ _ ho) rfl rfl rfl (X1 _ _ hcda) rfl hvs hfile T.top ?_
  refine ks_loadName_global (env := ksEnv q (iScope fld) s.heap.objs.size fI (.ref cda) cc) rfl (by rcases S with e | e <;> (rw [e]; rfl)) (loadGlobal_builtin (env := ksEnv q (iScope fld) s.heap.objs.size fI (.ref cda) cc) (hns.keeps k) hms (hbt.keeps k) hbb ⟨rfl, ?_⟩)
  refine wpAny_loadName_free rfl (by rcases S with e | e <;> (rw [e]; rfl)) rfl ⟨_, X1 _ _ hcell, rfl⟩ ?_
  refine wpAny_loadName_local rfl (by rcases S with e | e <;> (rw [e]; rfl)) hn lS ?_
  refine ks_wpAny_isType_cls (X1 _ _ hC) rfl ⟨rfl, ?_⟩
  refine ks_wpAny_call_super (X1 _ _ hC) rfl hx1 rfl (fun c e => by cases e) (looks_mroIn X1 T.sub) (fun h2 e2 k2 => ?_)
  have X2 : K.In h2 := X1.keeps k2
  have hx2 := k2 _ _ hx1
  have hI : Looks (model P w) h2 (isInstance (.ref x) (.type "ValueError")) true := (InstAt.type (M := model P w) (⟨hx2, rfl, rfl, trivial⟩ : InstAt h2 x (excO C t0) C none)).andThen (looks_subIn X2 T.subVE)
  have hxC : x ≠ C := fun e => by
    have z := X1 _ _ hC
    rw [← e, hx1] at z
    cases z
  refine kxs_getMethod kxs_ValueError e2 (looks_opaque X2 T.opq) (l₀ := .ref C :: bm) (fun A Q E s k q => wpAny_bind ((looks_clsIn X2 hcl) A _ E s k (wpAny_pure q))) rfl X2 (by have z := T.sup; unfold ks_superIn at z; rw [hcl] at z; exact z) hI hxC (by decide) ?_
  have u3 : ∀ b o, h2.get? b = some o → (h2.push (kxs_mw "ValueError.__init__" x)).get? b = some o := fun b o e => Heap.get?_push_of_some _ e
  have hu3 : (h2.push (kxs_mw "ValueError.__init__" x)).get? h2.objs.size = some (kxs_mw "ValueError.__init__" x) := Heap.get?_push_at rfl rfl
  have hn3 : (h2.push (kxs_mw "ValueError.__init__" x)).Ns s.heap.objs.size fun y => ([(("self" : Str), Value.ref x), (fld, v)] : List (Str × Value)).reverse.lookup y := (hn.keeps k2).keeps u3
  have hx3 := u3 _ _ hx2
  have ldF : ∀ {M : Model} {A : Around} {E : Value → Shared → Prop} {h' : Heap} {g : Array GenState} {d : Drawn} {t : Nat} {os : OsState} {p : Pos} {Q : Value → Shared → Prop},
      h'.Ns s.heap.objs.size (fun y => ([(("self" : Str), Value.ref x), (fld, v)] : List (Str × Value)).reverse.lookup y) → Q v ⟨h', g, d, t, os⟩ → wpAny M A (eval (.Name fld p) (ksEnv q (iScope fld) s.heap.objs.size fI (.ref cda) cc)) Q E ⟨h', g, d, t, os⟩ :=
    fun hn' hq' => wpAny_Name (wpAny_loadName_local rfl (by rcases S with e | e <;> (rw [e]; rfl)) hn' lF hq') ndb
  refine kxs_callWith (i := "ValueError.__init__") (x := x) rfl (evalArgs_plain (Calls.spliced_cons (ldF hn3 (Calls.spliced_nil ⟨hu3, ?_⟩))))
  refine call_mw (e := x) T.ox (X2.keeps u3) hx3 hu3 (by rw [sizeLine_eq]; exact (by decide : 1 ≤ 16777216)) (fun h4 t1 k4 e4 => ?_)
  show PySem.wpAt _ _ _ (execs (_ :: _) _) _ _ _
  have nL : s.heap.objs.size ≠ x := Nat.ne_of_gt (Heap.lt_size hx)
  have X4 : K.In h4 := fun a o e => k4 a o (fun y => by rw [y, hnx] at e; cases e) (X2.keeps u3 a o e)
  have hn4 : h4.Ns s.heap.objs.size fun y => ([(("self" : Str), Value.ref x), (fld, v)] : List (Str × Value)).reverse.lookup y := by
    obtain ⟨oL, es, ep, hL, r⟩ := hn3
    exact ⟨oL, es, ep, k4 _ _ nL hL, r⟩
  refine ks_wpAt_execs_cons (ks_wpAt_Assign_Attr (wpAt_of_wpAny (ldF hn4 ?_)))
  refine wpAny_Name (wpAny_loadName_local rfl (by rcases S with e | e <;> (rw [e]; rfl)) hn4 lS ?_) (by decide)
  refine set_plain X4 (ox := excO C t1) (od := none) ⟨e4, rfl, rfl, trivial⟩ T.ox.sa ?_
  refine exc_osa X4 e4 hcl (show refsVE (.ref C :: bm) = true from hbm) rfl T.noN (fun h5 tk5 dx k5 dn dne hx5 hn5 => ?_)
  show PySem.wpAt _ _ _ (execs [] _) _ _ _
  refine wpAt_of_wpAny (wpAny_execs_nil ?_)
  have old : ∀ b o, b ≠ x → s.heap.get? b = some o → h5.get? b = some o := fun b o hb e => k5 b o hb (k4 b o hb (u3 b o (k2 b o (k b o e))))
  refine hq h5 tk5 dx t1 ⟨old, hx5, ?_, dne, hn5⟩
  have le1 : s.heap.objs.size ≤ h4.objs.size := by
    obtain ⟨oL, es, ep, hL, r⟩ := hn4
    exact Nat.le_of_lt (Heap.lt_size hL)
  exact Nat.le_trans le1 dn
end
end Er
set_option Elab.async false
set_option linter.all false
set_option maxRecDepth 100000
set_option maxHeartbeats 4000000
/-! ErrB: the call of an error class, by position, by name, without. -/
namespace Er
open PySem PySem.W PySem.Calls PyProof.Rows PySem.HandSPX
section
variable {M : Model} {A : Around} {E : Value → Shared → Prop} {h : Heap} {g : Array GenState} {d : Drawn} {t : Nat} {os : OsState}
variable {nm q : Str} {C N : Addr} {bs bm : List Value} {hdct : Bool} {sn : List Str} {sub : List Value} {ab : Bool} {col : Option Bool} {dd : Option Addr} {k0 k1 k2 k3 k5 : Option Value}
theorem has_ve (hbm : refsVE bm = true) (X : String) : bm.contains (.type X) = veTail.contains (.type X) := refsVE_contains X bm hbm
theorem look_new (hbm : refsVE bm = true) {ps : List Value} {kw : List (Str × Value)} {Q : Unit → Shared → Prop}
    (hC : h.get? C = some (excClassObj nm q C N bs bm hdct sn sub ab col dd k0 k1 k2 k3 k5 "ValueError.__new__")) (hq : Q () ⟨h, g, d, t, os⟩) : wpAny M A (checkBuiltinCall "ValueError.__new__" ⟨.ref C :: ps, kw⟩) Q E ⟨h, g, d, t, os⟩ := by
  have hT := has_ve hbm
  have hB : (Value.ref C :: bm).contains (.type "ValueError") = true := by rw [List.contains_cons, hT, F.excBase_ValueError.hasB, Bool.or_true]
  have noS := F.excBase_ValueError.noStar
  simp only [checkBuiltinCall, F.excBase_ValueError.newKind, F.excBase_ValueError.newSplit, F.excBase_ValueError.newRow]
  repeat (first | refine wpAny_loadPart_at hC ?_ | (refine wpAny_isSubtype_exc hC ?_; rw [hB]) | refine wpAny_staticBase_exc hC ?_ | refine wpAny_madeBy_exc hC ?_ | simp only [bne_self_eq_false, Bool.false_eq_true, if_false] | wp_step)
  exact hq
end
section
variable {prog : Program} {w : World} {A : Around} {E : Value → Shared → Prop} {R : Result → Shared → Prop} {h : Heap} {g : Array GenState} {d : Drawn} {t : Nat} {os : OsState}
variable {nm q : Str} {C N : Addr} {bs bm : List Value} {hdct : Bool} {sn : List Str} {sub : List Value} {ab : Bool} {col : Option Bool} {dd : Option Addr} {k0 k1 k2 k3 k5 : Option Value}
theorem lay_new (hbm : refsVE bm = true) {ps : List Value} {kw : List (Str × Value)}
    (hC : h.get? C = some (excClassObj nm q C N bs bm hdct sn sub ab col dd k0 k1 k2 k3 k5 "ValueError.__new__"))
    (hq : R (.ok (.ret (.ref (h.objs.size + 1)))) ⟨(h.push (kdv_tup ps)).push (excO C h.objs.size), g, d, t, os⟩) (hz : ps.length ≤ sizeLine) :
    codeAny (model prog w) A (.builtin "ValueError.__new__" ⟨.ref C :: ps, kw⟩) R ⟨h, g, d, t, os⟩ := by
  have hT := has_ve hbm
  have Fb := F.excBase_ValueError
  have he := Fb.ends
  have hB : (Value.ref C :: bm).contains (.type "ValueError") = true := by rw [List.contains_cons, hT, Fb.hasB, Bool.or_true]
  have hA : (Value.ref C :: bm).contains (.type "AttributeError") = false := by rw [List.contains_cons, hT, Fb.noAttr]; rfl
  have hN : (Value.ref C :: bm).contains (.type "NameError") = false := by rw [List.contains_cons, hT, Fb.noName]; rfl
  refine codeAny_builtinAt Fb.entry ?_
  unfold Builtin.«BaseException.__new__»
  refine PySem.wpAt_bind ?_
  show PySem.wpAt _ _ _ (stack >>= _) _ _ _
  refine PySem.wpAt_bind (PySem.wpAt_stack fun p below => PySem.wpAt_of_wpAny ?_)
  wp_walk
  refine PySem.wpAt_of_wpAny ?_
  rw [Fb.owner]
  repeat (first | with_reducible refine wpAny_madeHere_exc Fb.canon hC ?_ | with_reducible refine wpAny_loadPart_at hC ?_ | (with_reducible refine wpAny_isSubtype_exc hC ?_; first | rw [hB] | rw [hA] | rw [hN]) | wp_step)
  show R _ _
  rw [Heap.size_push]
  exact hq

theorem run_class (hbm : refsVE bm = true) {ps : List Value} {kw : List (Str × Value)} {fI : Addr} {Q : Fin → Shared → Prop}
    (hC : h.get? C = some (excClassObj nm q C N bs bm hdct sn sub ab col dd k0 k1 k2 k3 k5 "ValueError.__new__"))
    (hi : Looks (model prog w) h (typeLookup (.ref C) "__init__") (some (.ref fI))) (hb : ∀ self, Looks (model prog w) h (bindSpecial (.ref fI) self) (.ref fI, [self])) (hz : ps.length ≤ sizeLine)
    (hq : codeAny (model prog w) A (.call (.ref fI) ⟨.ref (h.objs.size + 1) :: ps, kw⟩)
      (fun r s' => match r with | .ok (.ret v) => v = .none ∧ Q (.done (.ret (.ref (h.objs.size + 1)))) s' | .ok _ => False | .error e => E e s')
      ⟨(h.push (kdv_tup ps)).push (excO C h.objs.size), g, d, t, os⟩) :
    wpAny (model prog w) A (Builtin.«type.__call__» ⟨.ref C :: ps, kw⟩) Q E ⟨h, g, d, t, os⟩ := by
  repeat (first | with_reducible refine wpAny_loadPart_at hC ?_ | with_reducible refine wpAny_madeBy_exc hC ?_ | wp_step)
  refine codeAny_call_builtin_code (Code.quiet_builtin _ F.excBase_ValueError.quiet) (look_new hbm hC ?_)
  refine lay_new hbm hC ?_ hz
  show wpAny _ _ _ _ _ _
  have k : ∀ b o, h.get? b = some o → ((h.push (kdv_tup ps)).push (excO C h.objs.size)).get? b = some o := fun b o e => Heap.get?_push_of_some _ (Heap.get?_push_of_some _ e)
  have hC1 := k _ _ hC
  have hx : ((h.push (kdv_tup ps)).push (excO C h.objs.size)).get? (h.objs.size + 1) = some (excO C h.objs.size) := by heap_get
  have hcC : (Value.ref C :: bm).contains (.ref C) = true := by simp
  have i1 := hi.keeps k
  have b1 := (hb (.ref (h.objs.size + 1))).keeps k
  unfold isInstance
  repeat (first | with_reducible refine wpAny_loadPart_at hx ?_ | (with_reducible refine wpAny_isSubtype_exc hC1 ?_; rw [hcC]) | wp_step)
  show wpAny _ _ (typeLookup (.ref C) _) _ _ _
  refine i1.at ?_
  refine wpAny_holding (wpAny_bind (b1.at ?_))
  refine wpAny_bind (wpAny_call (codeAny_mono hq fun r s' z => ?_))
  rcases r with e | (v | _ | _ | _) <;> first | exact z | exact z.elim | skip
  obtain ⟨rfl, z⟩ := z
  first
    | exact wpAny_pure (wpAny_pure z)
    | (wp_walk; exact z)
theorem call_class (hbm : refsVE bm = true) {ps : List Value} {kw : List (Str × Value)} {fI : Addr}
    (hC : h.get? C = some (excClassObj nm q C N bs bm hdct sn sub ab col dd k0 k1 k2 k3 k5 "ValueError.__new__"))
    (hi : Looks (model prog w) h (typeLookup (.ref C) "__init__") (some (.ref fI))) (hb : ∀ self, Looks (model prog w) h (bindSpecial (.ref fI) self) (.ref fI, [self])) (hz : ps.length ≤ sizeLine)
    (hq : codeAny (model prog w) (A.under (.builtin "type.__call__" ⟨.ref C :: ps, kw⟩)) (.call (.ref fI) ⟨.ref (h.objs.size + 1) :: ps, kw⟩) (InitBack (h.objs.size + 1) R)
      ⟨(h.push (kdv_tup ps)).push (excO C h.objs.size), g, d, t, os⟩) :
    codeAny (model prog w) A (.call (.ref C) ⟨ps, kw⟩) R ⟨h, g, d, t, os⟩ := by
  have f1 := tc_lookup
  have f2 := tc_bind (.ref C)
  have hTy : (⟨h, g, d, t, os⟩ : Shared).TypeIs (.ref C) "type" := ⟨_, hC, rfl⟩
  have typ : Looks (model prog w) h (isInstance (.ref C) (.type "type")) true := (((Looks.ld hC).andThen .now : Looks (model prog w) h (typeOf (.ref C)) (.type "type"))).andThen (Looks.of_pure tc_sub)
  refine codeAny_of_tree ?_
  show wpAny _ _ (callAny (.ref C) _) _ _ _
  repeat (any_goals (first | assumption | with_reducible refine wpAny_loadPart_at hC ?_ | wp_step))
  refine ⟨rfl, ?_⟩
  refine codeAny_call_builtin_at (Code.quiet_builtin _ (by decide +kernel)) entry_typeCall (check_slot tc_kind tc_split typ (tc_args _ _ _) (run_class hbm hC hi hb hz ?_))
  refine codeAny_mono hq fun r s' z => ?_
  rcases r with e | (v | _ | _ | _) <;> exact z

/-- an error made: the object at e, its dict at dx, both new -/
structure Made (h h' : Heap) (e C dx : Addr) (fld : Str) (v : Value) : Prop where
  keep : ∀ b o, h.get? b = some o → h'.get? b = some o
  new : h.objs.size ≤ e
  dbig : h.objs.size ≤ dx
  dne : dx ≠ e
  obj : ∃ t1 : Addr, h'.get? e = some { cls := .ref C, dict := some dx, data := .fields #[.ref t1, .none, .none, .none, .bool false, .none] }
  ns : h'.Ns1 dx (fun y => if y = fld then some v else none)
theorem err_made {P : Program} {K : Frag} {mg mb : Str → Option Value} {C fI : Addr} {fld : Str} {v : Value} {ps : List Value} {kw : List (Str × Value)} {s : Shared} (T : ErrTxt P K C fI fld) (G : Given fld v ps kw) (X : K.In s.heap) (hns : s.heap.Ns mainGlobals mg)
    (hms : mg "super" = none) (hbt : s.heap.Ns builtinsNs mb) (hbb : mb "super" = some (.type "super")) (hlim : s.heap.NoLimit) (hroom : A.depth + 1 < recursionLimit)
    (hq : ∀ h' tk e dx, Made s.heap h' e C dx fld v → R (.ok (.ret (.ref e))) { s with heap := h', toks := tk }) :
    codeAny (model P w) A (.call (.ref C) ⟨ps, kw⟩) R s := by
  obtain ⟨nm, qn, N, bs, bm, sn, sub, ab, col, dd, k0, k1, k2, k3, k5, hC, hbm⟩ := T.ox.cls
  obtain ⟨hp, g, dr, tk, os⟩ := s
  have k : ∀ b o, hp.get? b = some o → ((hp.push (kdv_tup ps)).push (excO C hp.objs.size)).get? b = some o := fun b o e => Heap.get?_push_of_some _ (Heap.get?_push_of_some _ e)
  have hx : ((hp.push (kdv_tup ps)).push (excO C hp.objs.size)).get? (hp.objs.size + 1) = some (excO C hp.objs.size) := by heap_get
  have hnx : K.lookup (hp.objs.size + 1) = none := by
    cases e : K.lookup (hp.objs.size + 1) with
    | none => rfl
    | some o =>
      have z : hp.get? (hp.objs.size + 1) = some o := X _ _ e
      exact absurd (Nat.lt_of_succ_lt (Heap.lt_size z)) (Nat.lt_irrefl _)
  refine call_class hbm (X _ _ hC) (looks_findIn X T.iC) (fun self => bind_fn X self T.tI) G.len ?_
  refine err_init (s := ⟨(hp.push (kdv_tup ps)).push (excO C hp.objs.size), g, dr, tk, os⟩) T G (X.keeps k) (hns.keeps k) hms (hbt.keeps k) hbb (hlim.keeps k) hx hnx ?_ fun h' tk' dx t1 B => ?_
  · rw [L2.make_depth]
    exact hroom
  · have old : ∀ b o, hp.get? b = some o → h'.get? b = some o := fun b o e => B.keep b o (Nat.ne_of_lt (Nat.lt_succ_of_lt (Heap.lt_size e))) (k b o e)
    have z : hp.objs.size + 1 + 1 ≤ dx := by
      have y := B.dbig
      rw [Heap.size_push, Heap.size_push] at y
      exact y
    exact ⟨rfl, hq h' tk' (hp.objs.size + 1) dx ⟨old, Nat.le_succ _, Nat.le_trans (Nat.le_trans (Nat.le_succ _) (Nat.le_succ _)) z, B.dne, ⟨t1, B.obj⟩, B.ns⟩⟩
end
end Er
set_option Elab.async false
set_option linter.all false
set_option maxRecDepth 100000
set_option maxHeartbeats 4000000
/-! ErrC: rules: an error made (by position, by name, without), its field read, isinstance of it. -/
namespace Er
open PySem PySem.Spec PyProof.Rows L2
/-- at a stands an error of the class at C whose field fld holds v -/
def ErrAt (H : Hp) (a C : Addr) (fld : Str) (v : V) : Prop := ∃ d, H a = some (exo a C (some d)) ∧ H d = some (exd d [(fld, v)])
theorem ErrAt.same {H H' : Hp} {a C : Addr} {fld : Str} {v : V} (s : Same H H') (e : ErrAt H a C fld v) : ErrAt H' a C fld v := by
  obtain ⟨d, h1, h2⟩ := e
  exact ⟨d, s _ _ h1, s _ _ h2⟩
/-- the abstract heap with a new error -/
abbrev errH (H : Hp) (a d C : Addr) (fld : Str) (v : V) : Hp := upd (upd H d (exd d [(fld, v)])) a (exo a C (some d))
theorem errH_a {H : Hp} {a d C : Addr} {fld : Str} {v : V} : errH H a d C fld v a = some (exo a C (some d)) := upd_same
theorem errH_d {H : Hp} {a d C : Addr} {fld : Str} {v : V} (ne : d ≠ a) : errH H a d C fld v d = some (exd d [(fld, v)]) := (upd_ne ne).trans upd_same
theorem errH_ne {H : Hp} {a d b C : Addr} {fld : Str} {v : V} (h1 : b ≠ a) (h2 : b ≠ d) : errH H a d C fld v b = H b := (upd_ne h1).trans (upd_ne h2)
theorem errH_at {H : Hp} {a d C : Addr} {fld : Str} {v : V} (ne : d ≠ a) : ErrAt (errH H a d C fld v) a C fld v := ⟨d, errH_a, errH_d ne⟩
theorem errH_same {H : Hp} {a d C : Addr} {fld : Str} {v : V} (ha : H a = none) (hd : H d = none) : Same H (errH H a d C fld v) := fun b o e =>
  (errH_ne (ne_of_none e ha) (ne_of_none e hd)).trans e
section
variable {X : Cx} {pins : List (Addr × Obj)} {σ : L2.St} {H : Hp}
theorem inv_made {hp h' : Heap} {g : Array GenState} {dr : Drawn} {tk t' : Nat} {os : OsState} {e C dx : Addr} {fld : Str} {v : V} {u : Value} (I : Inv X pins σ H ⟨hp, g, dr, tk, os⟩) (M : Made hp h' e C dx fld u) (rv : RelV v u) :
    Inv X pins σ (errH H e dx C fld v) ⟨h', g, dr, t', os⟩ := by
  have ha : H e = none := I.hok.fresh M.new
  have hd : H dx = none := I.hok.fresh M.dbig
  have ne : ∀ {b : Addr} {o : Obj}, hp.get? b = some o → b ≠ e ∧ b ≠ dx := fun {b o} q => ⟨Nat.ne_of_lt (Nat.lt_of_lt_of_le (Heap.lt_size q) M.new), Nat.ne_of_lt (Nat.lt_of_lt_of_le (Heap.lt_size q) M.dbig)⟩
  have U : Un X.fs [] H (errH H e dx C fld v) hp h' := {
    keep := fun b o q n _ _ => M.keep b o q
    slot := fun b o q n _ _ => ⟨o.slots, M.keep b o q⟩
    free := fun b o q n _ => (errH_ne (ne q).1 (ne q).2).trans n
    there := fun b o q _ => ⟨o, M.keep b o q⟩
    tups := fun b xs q => errH_same ha hd b _ q
    frzs := fun b o v q => errH_same ha hd b _ q
    tbls := fun b ps q => ⟨#[], by rw [Array.append_empty]; exact errH_same ha hd b _ q⟩ }
  refine I.un (t' := t') U fun b o q => ?_
  by_cases hb : b = e
  · subst hb
    rw [errH_a] at q
    cases q
    obtain ⟨t1, ho⟩ := M.obj
    exact exo_ok ho
  · by_cases hbd : b = dx
    · subst hbd
      rw [errH_d M.dne] at q
      cases q
      exact exd_ok M.ns (relO_put (fs := []) rv fun g => True.intro)
    · rw [errH_ne hb hbd] at q
      exact (I.hok b o q).stay (fun c v _ z => M.keep c v z) (fun c z => errH_same ha hd c _ z) fun c xs z => errH_same ha hd c _ z
/-- the class called -/
theorem run_err {C fI : Addr} {fld : Str} {v : V} {u : Value} {ps : List Value} {kw : List (Str × Value)} {s : Shared} {k : Nat} {Q : VK} (T : ErrTxt X.prog X.K C fI fld) (hms : X.mg "super" = none) (G : Given fld u ps kw) (hr : Room k X.A) (I : Inv X pins σ H s) (rv : RelV v u)
    (h : ∀ a d, H a = none → H d = none → d ≠ a → Q (.ref a) (errH H a d C fld v)) : wpAny (model X.prog X.w) X.A (call (.ref C) ps kw) (EP X pins σ Q) X.xe s := by
  obtain ⟨mb, hb1, hb2⟩ := I.mod.blt
  obtain ⟨hp, g, dr, tk, os⟩ := s
  refine wpAny_call (err_made T G I.kIn (I.mod.glob.keeps I.bk) hms (hb1.keeps I.bk) ((hb2 "super" (by decide)).trans (by decide +kernel)) I.nolimit (by have := hr.dp; omega) fun h' tk' e dx M => ?_)
  exact ⟨.ref e, _, inv_made I M rv, rfl, h e dx (I.hok.fresh M.new) (I.hok.fresh M.dbig) M.dne⟩
/-- X(e) -/
def tErr (C : Addr) (fld : Str) (te : TE) : TE := fun σ H Q => te σ H fun v H1 => ∀ a d, H1 a = none → H1 d = none → d ≠ a → Q (.ref a) (errH H1 a d C fld v)
section
variable {C fI : Addr} {fld x : Str} {e : Expr} {te : TE} {p pos kpos : Pos} {k : Nat}
theorem pe_err (T : ErrTxt X.prog X.K C fI fld) (hms : X.mg "super" = none) (hr : Room k X.A) (gC : X.mg x = some (.ref C)) (hg : Gl X x) (he : PE X e te)
    (hs : starEach [e] X.env = (false, eval e X.env) :: starEach [] X.env := by rfl) (hdb : (x == ("__debug__" : Str)) = false := by decide) (hpl : (backTo pos (starEach [] X.env)).any (·.1) = false := by rfl) : PE X (.Call (.Name x p) [e] [] pos) (tErr C fld te) := by
  refine ⟨fun pins s σ H Q I h => wpAny_Call_Name_kw (ld_glob I hg gC ?_ hdb)⟩
  refine PySem.W.callWith_K (h₀ := X.base) I.ok.mod.kin T.ox.kC ?_ hs hpl
  rw [hs]
  refine Calls.spliced_cons (thn (he.run pins s σ H _ I h) fun u s1 ⟨v, H1, I1, r1, q1⟩ => ?_)
  exact Calls.spliced_nil ⟨I1.kIn, run_err T hms .pos hr I1 r1 q1⟩
theorem pe_err0 (T : ErrTxt X.prog X.K C fI fld) (hms : X.mg "super" = none) (hr : Room k X.A) (gC : X.mg x = some (.ref C)) (hg : Gl X x) (hdb : (x == ("__debug__" : Str)) = false := by decide) :
    PE X (.Call (.Name x p) [] [] pos) (tErr C fld (tC .non)) := by
  refine ⟨fun pins s σ H Q I h => wpAny_Call_Name_kw (ld_glob I hg gC ?_ hdb)⟩
  exact PySem.W.callWith_K0 I.kIn T.ox.kC (run_err (v := .non) (u := .none) T hms (.non rfl) hr I rfl h)
theorem pe_errK (T : ErrTxt X.prog X.K C fI fld) (hms : X.mg "super" = none) (hr : Room k X.A) (gC : X.mg x = some (.ref C)) (hg : Gl X x) (he : PE X e te) (hdb : (x == ("__debug__" : Str)) = false := by decide) :
    PE X (.Call (.Name x p) [] [⟨some fld, e, kpos⟩] pos) (tErr C fld te) := by
  refine ⟨fun pins s σ H Q I h => wpAny_Call_Name_kw (ld_glob I hg gC ?_ hdb)⟩
  refine PySem.W.callWith_KW0 (h₀ := X.base) I.ok.mod.kin T.ox.kC rfl ?_ rfl
  show wpAny _ _ (evalAll [(do let v ← eval e X.env; standAt pos; pure v)]) _ _ s
  refine wpAny_evalAll_cons (wpAny_bind (thn (he.run pins s σ H _ I h) fun u s1 ⟨v, H1, I1, r1, q1⟩ => wpAny_bind (wpAny_standAt (wpAny_pure ?_))))
  exact wpAny_evalAll_nil ⟨I1.kIn, run_err T hms .kw hr I1 r1 q1⟩
/-- X(), X without an __init__ of its own -/
theorem pe_bare (T : OexC X.K C) (hi : PySem.W.findIn X.K (.ref C) "__init__" = some (some (.builtin "ValueError.__init__"))) (gC : X.mg x = some (.ref C)) (hg : Gl X x) (hdb : (x == ("__debug__" : Str)) = false := by decide) :
    PE X (.Call (.Name x p) [] [] pos) (fun σ H Q => ∀ a, H a = none → Q (.ref a) (upd H a (exo a C none))) := by
  refine ⟨fun pins s σ H Q I h => wpAny_Call_Name_kw (ld_glob I hg gC ?_ hdb)⟩
  refine PySem.W.callWith_K0 I.kIn T.kC ?_
  obtain ⟨nm, q, N, bs, bm, sn, sub, ab, col, dd, k0, k1, k2, k3, k5, hC, hbm⟩ := T.cls
  obtain ⟨hp, g, dr, tk, os⟩ := s
  refine PySem.W.call_B F.excBase_ValueError (fun Y => PySem.HandSPX.refsVE_contains Y bm hbm) (I.kIn _ _ hC) (PySem.W.looks_findIn I.kIn hi) (by rw [sizeLine_eq]; exact (by decide : 0 ≤ 16777216)) fun h' keep he _ => ?_
  have big : hp.objs.size ≤ hp.objs.size + 1 := Nat.le_succ _
  exact ⟨.ref (hp.objs.size + 1), _, I.laid (t' := tk) (a := hp.objs.size + 1) (o := exo (hp.objs.size + 1) C none) (h' := h') keep big (exo_ok he), rfl, h _ (I.hok.fresh big)⟩
end
/-! ### its field; isinstance -/
/-- what the class says besides -/
structure ErrCls (K : PySem.W.Frag) (C : Addr) (fld : Str) : Prop where
  ga : PySem.W.findIn K (.ref C) "__getattribute__" = some (some (.builtin "BaseException.__getattribute__"))
  gg : PySem.W.findIn K (.ref C) "__getattr__" = some none
  sb : PySem.W.subIn K (.ref C) (.type "BaseException") = some true
  hd : PySem.W.hasDictIn K C = true
  no : PySem.W.findIn K (.ref C) fld = some none
/-- e.fld -/
def tErrFld (K : PySem.W.Frag) (fld : Str) (te : TE) : TE := fun σ H Q => te σ H fun x H1 => ∃ a C v, x = .ref a ∧ ErrCls K C fld ∧ ErrAt H1 a C fld v ∧ Q v H1
theorem pe_errFld {fld : Str} {e : Expr} {te : TE} {pos : Pos} (he : PE X e te) (hb : attributeBase e fld X.env (eval e X.env) = eval e X.env := by rfl) : PE X (.Attribute e fld pos) (tErrFld X.K fld te) := by
  refine ⟨fun pins s σ H Q I h => attr_of hb (thn (he.run pins s σ H _ I h) fun u s1 ⟨x, H1, I1, rx, a, C, v, ex, T, ⟨d, h1, h2⟩, q⟩ => ?_)⟩
  subst ex
  obtain rfl : u = Value.ref a := rx
  obtain ⟨t1, ho⟩ := exo_at I1.hok h1
  obtain ⟨mA, hns, rel⟩ := exd_at I1.hok h2
  obtain ⟨od, hod, hl⟩ := lookIn_ns hns
  have l : List.lookup fld [(fld, v)] = some v := by simp [List.lookup]
  obtain ⟨u, hu, ru⟩ := RelO.some_of (v := v) (o := mA fld) (by rw [← l]; exact rel fld)
  have J : PySem.W.InstAt s1.heap a _ C (some od) := ⟨ho, rfl, rfl, hod⟩
  exact HandSPX.exc_get I1.kIn J T.ga T.gg T.sb (PySem.W.findObj_own T.hd T.no rfl (by rw [hl, hu])) (handed_of ru) ⟨v, H1, I1.tok _, ru, q⟩
/-- isinstance(e, c), e an error with its dict or without -/
def rIsErr (K : PySem.W.Frag) : List V → Hp → VK → Prop := fun xs H Q => ∃ (a C : Addr) (c : V) (cv : Value) (b : Bool), xs = [.ref a, c] ∧ ExcC K C ∧ (H a = some (exo a C none) ∨ ∃ d fs, H a = some (exo a C (some d)) ∧ H d = some (exd d fs)) ∧ ClsV c cv ∧
  PySem.W.kitOne K (.ref C) cv = some b ∧ Q (.bl b) H
theorem call_isErr : CallR X (.builtin "isinstance") (rIsErr X.K) := by
  intro pins s σ H xs us Q I r h
  obtain ⟨a, C, c, cv, b, rfl, T, hH, k, e, q⟩ := h
  obtain ⟨u1, u2, rfl, r1, r2⟩ := vals2 r
  obtain rfl : u1 = Value.ref a := r1
  obtain rfl := k.eq r2
  have hcl : (PySem.W.clsIn X.K C).isSome = true := by
    have z := T.hd
    unfold PySem.W.hasDictIn at z
    cases y : PySem.W.clsIn X.K C with
    | none => rw [y] at z; cases z
    | some cd => rfl
  have fin : ∀ {ox : Obj} {od : Option Obj}, PySem.W.InstAt s.heap a ox C od → wpAny (model X.prog X.w) X.A (call (.builtin "isinstance") [.ref a, u2]) (EP X pins σ Q) X.xe s := fun {ox od} J =>
    PySem.W.kia_one (PySem.W.kitx_exc (ox := ox) (od := od) hcl T.hg T.hk T.hs T.ha T.hn T.ht T.hm) I.kIn J e (fun z => nomatch z) fun tk => ⟨.bl b, H, I.tok tk, rfl, q⟩
  rcases hH with hH | ⟨d, fs, h1, h2⟩
  · obtain ⟨t1, ho⟩ := exo_at I.hok hH
    exact fin (od := none) ⟨ho, rfl, rfl, trivial⟩
  · obtain ⟨t1, ho⟩ := exo_at I.hok h1
    obtain ⟨mA, hns, rel⟩ := exd_at I.hok h2
    obtain ⟨od, hod, hl⟩ := lookIn_ns hns
    exact fin (od := some od) ⟨ho, rfl, rfl, hod⟩
end
end Er
set_option Elab.async false
set_option linter.all false
set_option maxRecDepth 100000
set_option maxHeartbeats 4000000
/-! GA: defs whose bodies ask repr: promises where no repr is under way (guards), repr of data that the heap holds, the law's end over such a promise. -/
namespace Gd
open PySem PySem.Spec PyProof.Rows L2
/-- a promise that is kept where no repr is under way -/
structure FG (P : Program) (w : World) (K : PySem.W.Frag) (mg : Str → Option Value) (base : Heap) (CX : CXT) (k : Nat) (f : Addr) (fd : FuncData) (ps : List Str) (sp : Sp) : Prop where
  len : ∀ vs H Q E, sp vs H Q E → vs.length = ps.length
  run : ∀ (A : Around) (outer : List Env) (s : Shared) (H : Hp) (args : Args) (us : List Value) (vs : List V) (Q : VK) (E : XK), A.guards = some [] → Room k A → Env0 P w K mg base A outer s H →
    BindsTo s fd args (ps.zip us) → Vals vs us → sp vs H Q E → codeAny (model P w) A (.call (.ref f) args) (CR CX outer P w H s Q E) s
section
variable {P : Program} {w : World} {K : PySem.W.Frag} {mg : Str → Option Value} {base : Heap} {CX : CXT} {k : Nat} {f : Addr} {fd : FuncData} {ps : List Str} {sp : Sp}
theorem FG.of (F : FnOk P w K mg base CX k f fd ps sp) : FG P w K mg base CX k f fd ps sp := ⟨F.len, fun A outer s H args us vs Q E _ => F.run A outer s H args us vs Q E⟩
theorem FG.mono {j : Nat} (F : FG P w K mg base CX j f fd ps sp) (h : j ≤ k) : FG P w K mg base CX k f fd ps sp :=
  ⟨F.len, fun A outer s H args us vs Q E hg hr => F.run A outer s H args us vs Q E hg (hr.mono h)⟩

/-- a def by its body, where no repr is under way -/
theorem fg_of {name qual : Str} {params : Arguments} {body : List Stmt} {scope : Scope} {dV kV doc pm cdv ct oc : Value} {an od : Option Addr} {osl : Array (Option Value)} {N : List Str}
    (lk : K.lookup f = some ⟨oc, od, .func (PySem.W.fnOf name qual params body scope dV kV doc pm an cdv ct), osl⟩) (hcd : PySem.W.codeIn K cdv qual = true) (S : FnScope N ps scope) (len : ∀ vs H Q E, sp vs H Q E → vs.length = ps.length)
    (hbody : ∀ (A : Around) (outer : List Env) (s : Shared) (H : Hp) (vs : List V) (Q : VK) (E : XK), A.guards = some [] → Room k (A.deeper (envOfC qual scope s.heap.objs.size f cdv)) → sp vs H Q E →
      ∃ t, PSs (cxOf CX P w K mg base N qual scope f cdv A outer s H E) body t ∧ t { nx := fun _ H' => Q .non H', rt := Q } (start N vs) H) :
    FG P w K mg base CX (k + 1) f (PySem.W.fnOf name qual params body scope dV kV doc pm an cdv ct) ps sp := by
  refine ⟨len, fun A outer s H args us vs Q E hgd hr e0 hb r hsp => ?_⟩
  have hl := len _ _ _ _ hsp
  have KX : K.In s.heap := e0.mod.kin.keeps fun b o e => (e0.bs b o e).1
  have lim : s.heap.NoLimit := e0.mod.nolimit.keeps fun b o e => (e0.bs b o e).1
  have kinds : ∀ y ∈ ps.zip us, scope.names.lookup y.1 = some .local ∨ (scope.names.lookup y.1 = some .cell ∧ ((cellsFrom (s.heap.objs.size + 1) scope.names []).lookup y.1).isSome = true) := fun y hy => by
    rcases S.par y.1 (List.of_mem_zip (show (y.1, y.2) ∈ ps.zip us from hy)).1 with q | q
    · exact .inl q
    · exact .inr ⟨q, PySem.W.cellsFrom_some _ _ _ (.inl q)⟩
  refine codeAny_call_function hr.depth (KX _ _ lk) rfl S.co S.gen rfl (PySem.W.codeRec_of KX hcd) (hb _ _ _ _ ?_)
  refine wpAny_newFunctionEnv_cells S.kind kinds fun env he s1 x => ?_
  subst he
  refine ⟨lim.keeps x.toInCall.keep, codeAny_func ?_⟩
  obtain ⟨t, ht, hq⟩ := hbody A outer s H vs Q E hgd (hr.deeper _) hsp
  have I0 : Inv (cxOf CX P w K mg base N qual scope f cdv A outer s H E) [] (start N vs) H s1 := inv_start S hr.hd e0 hl r x
  refine wpAny_mono (ht.run [] s1 (start N vs) H _ I0 hq) (fun fl s' hs => ?_) fun e s' hs => hs
  cases fl with
  | ret u =>
    obtain ⟨v, σ', H', J, rv, q⟩ := hs
    exact ⟨v, H', J.os, J.bare, J.base, J.hok, rv, q⟩
  | next =>
    obtain ⟨σ', H', J, q⟩ := hs
    exact ⟨V.non, H', J.os, J.bare, J.base, J.hok, rfl, q⟩
  | brk => exact hs.elim fun _ z => z.elim fun _ z => z.2.elim
  | cont => exact hs.elim fun _ z => z.elim fun _ z => z.2.elim
/-- .. of a def as a head's facts tell it -/
theorem FunD_okG {x qual : Str} {params : Arguments} {body : List Stmt} {scope : Scope} {dvs : List V} {kws : List (Str × V)} {N : List Str} (F : FunD K x qual params body scope dvs kws f fd) (S : FnScope N ps scope) (len : ∀ vs H Q E, sp vs H Q E → vs.length = ps.length)
    (hbody : ∀ (cdv : Value) (A : Around) (outer : List Env) (s : Shared) (H : Hp) (vs : List V) (Q : VK) (E : XK), A.guards = some [] → Room k (A.deeper (envOfC qual scope s.heap.objs.size f cdv)) → sp vs H Q E →
      ∃ t, PSs (cxOf CX P w K mg base N qual scope f cdv A outer s H E) body t ∧ t { nx := fun _ H' => Q .non H', rt := Q } (start N vs) H) : FG P w K mg base CX (k + 1) f fd ps sp := by
  obtain ⟨oc, od, dV, kV, doc, pm, an, cdv, ct, osl, rfl, lk, hcd, _, _⟩ := F.ex
  exact fg_of lk hcd S len fun A outer s H vs Q E hg hr hsp => hbody cdv A outer s H vs Q E hg hr hsp
end
section
variable {X : Cx} {CX : CXT} {k : Nat} {f : Addr} {fd : FuncData} {ps : List Str} {sp : Sp} {dvs : List V} {ds : List Value} {E : XK} {x : Str} {p pos : Pos} {e : Expr} {es : List Expr} {t : TA}
theorem run_fg {pins : List (Addr × Obj)} {σ : L2.St} {H : Hp} {s : Shared} {Q : VK} {us : List Value} {vs : List V} (gd : X.A.guards = some []) (F : FG X.prog X.w X.K X.mg X.base CX k f fd ps sp) (hr : Room k X.A) (hb : Binds X.K fd ps ds) (hd : Vals dvs ds)
    (hx : Passes CX X E) (I : Inv X pins σ H s) (r : Vals vs us) (h : sp (vs ++ dvs) H Q E) : wpAny (model X.prog X.w) X.A (call (.ref f) us) (EP X pins σ Q) X.xe s := by
  have r2 : Vals (vs ++ dvs) (us ++ ds) := r.append hd
  have hl : (us ++ ds).length = ps.length := r2.length.symm.trans (F.len _ _ _ _ h)
  refine wpAny_call (codeAny_mono (F.run X.A X.stack s H ⟨us, []⟩ (us ++ ds) (vs ++ dvs) Q E gd hr I.env0 (hb s us I.kIn hl) r2 h) fun r s' hq => ?_)
  cases r with
  | error e => exact hx pins σ H s e s' I hq
  | ok fl => cases fl <;> first | exact I.after hq | exact False.elim hq
theorem pe_fg (gd : X.A.guards = some []) (F : FG X.prog X.w X.K X.mg X.base CX k f fd ps sp) (hr : Room k X.A) (hg : Gl X x) (hm : X.mg x = some (.ref f)) (hk : PySem.W.keepIn X.K (.ref f) = true) (hb : Binds X.K fd ps ds) (hd : Vals dvs ds) (hx : Passes CX X E)
    (ha : PA X (e :: es) t) (hdb : (x == ("__debug__" : Str)) = false := by decide) (he : starEach (e :: es) X.env = (false, eval e X.env) :: starEach es X.env := by rfl) (hpl : (backTo pos (starEach es X.env)).any (·.1) = false := by rfl) :
    PE X (.Call (.Name x p) (e :: es) [] pos) (tCall sp dvs E t) := by
  refine ⟨fun pins s σ H Q I h => wpAny_Call_Name_kw (ld_glob I hg hm ?_ hdb)⟩
  exact PySem.W.callWith_K (h₀ := X.base) I.ok.mod.kin hk (thn (ha.run pos pins s σ H _ I h) fun us s1 ⟨vs, H1, I1, r, q⟩ => ⟨I1.kIn, run_fg gd F hr hb hd hx I1 r q⟩) he hpl
theorem pe_fg0 (gd : X.A.guards = some []) (F : FG X.prog X.w X.K X.mg X.base CX k f fd ps sp) (hr : Room k X.A) (hg : Gl X x) (hm : X.mg x = some (.ref f)) (hk : PySem.W.keepIn X.K (.ref f) = true) (hb : Binds X.K fd ps ds) (hd : Vals dvs ds) (hx : Passes CX X E)
    (hdb : (x == ("__debug__" : Str)) = false := by decide) : PE X (.Call (.Name x p) [] [] pos) (tCall sp dvs E tNil) := by
  refine ⟨fun pins s σ H Q I h => wpAny_Call_Name_kw (ld_glob I hg hm ?_ hdb)⟩
  exact PySem.W.callWith_K0 I.kIn hk (run_fg (us := []) gd F hr hb hd hx I .nil h)
end

/-! ### data that the heap holds, dicts too -/
def kD : Key → PyData
  | .inl i => .int i
  | .inr x => .str x
mutual
inductive Dq (K : PySem.W.Frag) (H : Hp) : V → PyData → Prop
  | non : Dq K H .non .none
  | bl (b : Bool) : Dq K H (.bl b) (.bool b)
  | int (i : Int) : Dq K H (.int i) (.int i)
  | str (x : Str) : Dq K H (.str x) (.str x)
  | lst {a : Addr} {xs : List V} {ds : List PyData} : SqL K H a xs → DqAll K H xs ds → Dq K H (.ref a) (.list ds)
  | tup {a : Addr} {xs : List V} {ds : List PyData} : SqT K H a xs → DqAll K H xs ds → Dq K H (.ref a) (.tuple ds)
  | dct {a : Addr} {kvs : List (Key × V)} {qs : List (PyData × PyData)} : H a = some (.dK kvs) → DqKv K H kvs qs → Dq K H (.ref a) (.dict qs)
inductive DqAll (K : PySem.W.Frag) (H : Hp) : List V → List PyData → Prop
  | nil : DqAll K H [] []
  | cons {v : V} {vs : List V} {d : PyData} {ds : List PyData} : Dq K H v d → DqAll K H vs ds → DqAll K H (v :: vs) (d :: ds)
inductive DqKv (K : PySem.W.Frag) (H : Hp) : List (Key × V) → List (PyData × PyData) → Prop
  | nil : DqKv K H [] []
  | cons {k : Key} {v : V} {kvs : List (Key × V)} {d : PyData} {qs : List (PyData × PyData)} : Dq K H v d → DqKv K H kvs qs → DqKv K H ((k, v) :: kvs) ((kD k, d) :: qs)
end
/-- the boot's table of modules stands -/
def Mods (base : Heap) : Prop := ∃ o, base.get? sysModules = some o ∧ o.cls = .type "dict"
section
variable {X : Cx} {pins : List (Addr × Obj)} {σ : L2.St} {H : Hp} {s : Shared}
theorem ne_sys (hB : Mods X.base) (I : Inv X pins σ H s) {a : Addr} {o : Obj} (e : s.heap.get? a = some o) (c : o.cls ≠ .type "dict") : sysModules ≠ a := fun z => by
  obtain ⟨u, hu, hc⟩ := hB
  have y := I.bk _ _ hu
  rw [z, e] at y
  cases y
  exact c hc
theorem keys_read {h : Heap} : ∀ {es : List DictEntry} {kvs : List (Key × Value)}, Pairs (mixKind X.prog X.w) es kvs → ReadsAll h (es.map (·.key)) (kvs.map fun q => kD q.1) []
  | _, _, .nil => .nil
  | _, _, .cons (kv := kv) h1 _ r => by
    obtain ⟨k, v⟩ := kv
    have e := keyIs_shape (show keyIs k _ = true from h1)
    have r2 := keys_read (h := h) r
    rcases e with ⟨i, t, rfl, e⟩ | ⟨x, t, rfl, e⟩
    · rw [List.map_cons, e]
      exact ReadsAll.cons (as := []) (bs := []) (Reads.int i t) r2
    · rw [List.map_cons, e]
      exact ReadsAll.cons (as := []) (bs := []) (Reads.str x t) r2
theorem pairs_vals : ∀ {es : List DictEntry} {kvs : List (Key × Value)}, Pairs (mixKind X.prog X.w) es kvs → es.map (·.val) = kvs.map (·.2)
  | _, _, .nil => rfl
  | _, _, .cons _ h2 r => by
    rw [List.map_cons, List.map_cons, pairs_vals r, h2]
theorem keys_of : ∀ {kvs : List (Key × V)} {vs : List (Key × Value)} {qs : List (PyData × PyData)}, KV kvs vs → DqKv X.K H kvs qs → vs.map (fun q => kD q.1) = qs.map (·.1)
  | _, _, _, .nil, .nil => rfl
  | _, _, _, .cons r1 r2, .cons _ h => by
    have e := r1.1
    dsimp only at e
    rw [List.map_cons, List.map_cons, keys_of r2 h, ← e]
mutual
theorem Dq.reads (hB : Mods X.base) (I : Inv X pins σ H s) : ∀ (d : PyData) (v : V) (u : Value), Dq X.K H v d → RelV v u → ∃ as, Reads s.heap u d as ∧ sysModules ∉ as
  | .none, _, _, h, r => by
    cases h; cases r
    exact ⟨_, Reads.none, fun z => nomatch z⟩
  | .bool b, _, _, h, r => by
    cases h; cases r
    exact ⟨_, Reads.bool b, fun z => nomatch z⟩
  | .int i, _, _, h, r => by
    cases h
    obtain ⟨t, rfl⟩ := r
    exact ⟨_, Reads.int i t, fun z => nomatch z⟩
  | .str x, _, _, h, r => by
    cases h
    obtain ⟨t, rfl⟩ := r
    exact ⟨_, Reads.str x t, fun z => nomatch z⟩
  | .list ds, _, _, h, r => by
    cases h with
    | lst hs ha =>
      cases r
      obtain ⟨its, rv, ⟨o, n, ho, hc, _, hd⟩, _⟩ := I.list hs
      obtain ⟨as, hr, hn⟩ := Dq.readsAll hB I ds _ its ha rv
      refine ⟨_, Reads.list ho hc hd hr, fun z => ?_⟩
      rcases List.mem_cons.mp z with z | z
      · exact ne_sys hB I ho (by rw [hc]; decide) z
      · exact hn z
  | .tuple ds, _, _, h, r => by
    cases h with
    | tup hs ha =>
      cases r
      obtain ⟨its, rv, ⟨o, ho, hc, n, hd⟩, _⟩ := I.tuple hs
      obtain ⟨as, hr, hn⟩ := Dq.readsAll hB I ds _ its ha rv
      exact ⟨_, Reads.tuple ho hc hd hr, hn⟩
  | .dict qs, _, _, h, r => by
    cases h with
    | dct hs ha =>
      cases r
      obtain ⟨_, hy, vs, rv, o, es, ep, ho, hx, hd, _, hp, _⟩ := I.hok _ _ hs
      obtain ⟨bs, hr, hn⟩ := Dq.readsKv hB I qs _ vs ha rv
      have h1 := keys_read (h := s.heap) hp
      rw [keys_of rv ha] at h1
      rw [← pairs_vals hp] at hr
      refine ⟨_, Reads.dict ho hx.1 hd h1 hr, fun z => ?_⟩
      rcases List.mem_cons.mp z with z | z
      · rw [← z] at hy
        exact absurd hy (by decide)
      · exact hn z
theorem Dq.readsAll (hB : Mods X.base) (I : Inv X pins σ H s) : ∀ (ds : List PyData) (vs : List V) (us : List Value), DqAll X.K H vs ds → Vals vs us → ∃ as, ReadsAll s.heap us ds as ∧ sysModules ∉ as
  | [], _, _, h, r => by
    cases h; cases r
    exact ⟨_, ReadsAll.nil, fun z => nomatch z⟩
  | d :: ds, _, _, h, r => by
    cases h with
    | cons h1 h2 =>
      cases r with
      | cons r1 r2 =>
        obtain ⟨as, q1, n1⟩ := Dq.reads hB I d _ _ h1 r1
        obtain ⟨bs, q2, n2⟩ := Dq.readsAll hB I ds _ _ h2 r2
        exact ⟨_, ReadsAll.cons q1 q2, fun z => (List.mem_append.mp z).elim n1 n2⟩
theorem Dq.readsKv (hB : Mods X.base) (I : Inv X pins σ H s) : ∀ (qs : List (PyData × PyData)) (kvs : List (Key × V)) (us : List (Key × Value)), DqKv X.K H kvs qs → KV kvs us → ∃ as, ReadsAll s.heap (us.map (·.2)) (qs.map (·.2)) as ∧ sysModules ∉ as
  | [], _, _, h, r => by
    cases h; cases r
    exact ⟨_, ReadsAll.nil, fun z => nomatch z⟩
  | q :: qs, _, _, h, r => by
    cases h with
    | cons h1 h2 =>
      cases r with
      | cons r1 r2 =>
        obtain ⟨as, q1, n1⟩ := Dq.reads hB I _ _ _ h1 r1.2
        obtain ⟨bs, q2, n2⟩ := Dq.readsKv hB I qs _ _ h2 r2
        exact ⟨_, ReadsAll.cons q1 q2, fun z => (List.mem_append.mp z).elim n1 n2⟩
end
/-- repr(e), e a list, a tuple or a dict -/
def rRepr (K : PySem.W.Frag) : List V → Hp → VK → Prop := fun xs H Q => ∃ (a : Addr) (d : PyData), xs = [.ref a] ∧ Dq K H (.ref a) d ∧ d.showable = true ∧ d.depth ≤ 40 ∧ d.shown.length ≤ sizeLine ∧ Q (.str d.shown) H
theorem call_repr (hB : Mods X.base) (gd : X.A.guards = some []) (hu : X.A.units + 64 < cLine) : CallR X (.builtin "repr") (rRepr X.K) := by
  intro pins s σ H xs us Q I r h
  obtain ⟨a, d, rfl, hd, hs, hz, hl, q⟩ := h
  obtain ⟨u, rfl, ru⟩ := vals1 r
  obtain ⟨as, hr, hn⟩ := Dq.reads hB I d _ _ hd ru
  obtain rfl : u = Value.ref a := ru
  exact repr_of_reads' hr hs (fun _ => hn) gd (by omega) (fun _ _ e => e) (fun h' u tk hk => ⟨.str d.shown, H, I.kept hk, ⟨u, rfl⟩, q⟩) hl
end
end Gd
set_option Elab.async false
set_option linter.all false
set_option maxRecDepth 100000
set_option maxHeartbeats 4000000
/-! GB: the law's end over a promise that is kept where no repr is under way. -/
namespace Gd
open PySem PySem.Spec PyProof.Rows L2
/-- what is wanted of the law's call -/
abbrev Kept (s₁ : Shared) (r : Result) (s' : Shared) : Prop := r = .ok (.ret (.bool true)) ∧ OldK s₁.heap s'.heap ∧ s'.os = s₁.os ∧ AllBare s'.gens
section
variable {P : Program} {w : World} {K : PySem.W.Frag} {mg mb : Str → Option Value} {k : Nat} {fa a : Addr} {fd : FuncData} {x : Str} {sp : Sp} {s₁ : Shared} {vs : List Value} {ns : List Int} {H : Hp}
/-- from an abstract heap in which at most the script is tracked -/
theorem call_from (KX : K.In s₁.heap) (hns : s₁.heap.Ns mainGlobals mg) (hb : s₁.heap.Ns builtinsNs mb) (hbb : ∀ x : Str, x ≠ "__name__" → mb x = bootBuiltins x) (hlim : s₁.heap.NoLimit) (hM : Mods s₁.heap) (hg : s₁.gens = #[])
    (ha : s₁.heap.get? a = some { cls := .type "list", data := .seq vs.toArray }) (hr : Room k PySem.callerA) (hO : Only H) (hok : HOk P w H s₁.heap) (hA : ∀ b, H b ≠ none → b = a) (hK : H a ≠ none → K.lookup a = none)
    (F : ∀ base : Heap, K.In base → base.Ns mainGlobals mg → Mods base → FG P w K mg base CX0 k fa fd [x] sp) (hbind : ∀ (s : Shared) (u : Value), BindsTo s fd ⟨[u], []⟩ [(x, u)])
    (hsp : sp [.ref a] H (fun v _ => v = .bl true) fun _ _ _ => False) :
    codeAny (model P w) PySem.callerA (.call (.ref fa) ⟨[.ref a], []⟩) (Kept s₁) s₁ := by
  have free : ∀ {b : Addr}, b ≠ a → H b = none := fun {b} nb => by
    cases q : H b with
    | none => rfl
    | some u => exact absurd (hA b (by rw [q]; exact fun z => nomatch z)) nb
  have stays : ∀ {b : Addr} {o : Obj}, s₁.heap.get? b = some o → b ≠ a → (hidT s₁.heap H).get? b = some o := fun e nb => hidT_get e (free nb)
  have noList : ∀ {b : Addr} {o : Obj} {es : Array DictEntry} {ep : Nat}, s₁.heap.get? b = some o → o.data = .dict es ep → b ≠ a := fun e d z => by
    rw [z, ha] at e
    cases e
    cases d
  have nsK : ∀ {b : Addr} {m : Str → Option Value}, s₁.heap.Ns b m → (hidT s₁.heap H).Ns b m := fun {b m} ⟨o, es, ep, e, d, r⟩ => ⟨o, es, ep, stays e (noList e d), d, r⟩
  have hKb : K.In (hidT s₁.heap H) := fun b o e => hidT_get (KX b o e) (by
    cases q : H b with
    | none => rfl
    | some u =>
      have z := hA b (by rw [q]; exact fun z => nomatch z)
      subst z
      rw [hK (by rw [q]; exact fun z => nomatch z)] at e
      cases e)
  have hMb : Mods (hidT s₁.heap H) := by
    obtain ⟨o, e, c⟩ := hM
    refine ⟨o, stays e fun z => ?_, c⟩
    rw [z, ha] at e
    cases e
    have y : ("list" : String) = "dict" := Value.type.inj c
    exact absurd y (by decide)
  have hMod : Mod K mg (hidT s₁.heap H) := ⟨hKb, nsK hns, ⟨mb, nsK hb, hbb⟩, hlim.elim fun mc z => ⟨mc, nsK z.1, z.2⟩⟩
  have e0 : Env0 P w K mg (hidT s₁.heap H) PySem.callerA [] s₁ H := ⟨rfl, hMod, fun b o e => of_hidT e, Nat.le_of_eq (hidT_size _ _), trivial, fun b z => absurd z (List.not_mem_nil), hok, .of_eq hg⟩
  refine codeAny_mono ((F _ hKb (nsK hns) hMb).run PySem.callerA [] s₁ H ⟨[.ref a], []⟩ [.ref a] [.ref a] _ _ rfl hr e0 (hbind s₁ (.ref a)) (.cons rfl .nil) hsp) fun r s' h => ?_
  cases r with
  | error e => exact False.elim h
  | ok fl =>
    cases fl with
    | ret u =>
      obtain ⟨v, H', os, bare, un, hok', r', q⟩ := h
      have q' : v = .bl true := q
      subst q'
      obtain rfl : u = Value.bool true := r'
      refine ⟨rfl, OldK.of_keep fun b o e => ?_, os, bare⟩
      rcases hO b with z | ⟨ob, xs, z⟩
      · exact un.keep b o e z (List.not_mem_nil) (List.not_mem_nil)
      · have z2 := un.frzs b ob _ z
        have e1 := (hok b _ z).1
        have e2 := (hok' b _ z2).1
        rw [e] at e1
        cases e1
        exact e2
    | _ => exact False.elim h
theorem law_callG (KX : K.In s₁.heap) (hns : s₁.heap.Ns mainGlobals mg) (hb : s₁.heap.Ns builtinsNs mb) (hbb : ∀ x : Str, x ≠ "__name__" → mb x = bootBuiltins x) (hlim : s₁.heap.NoLimit) (hM : Mods s₁.heap) (hg : s₁.gens = #[])
    (ha : s₁.heap.get? a = some { cls := .type "list", data := .seq vs.toArray }) (hi : IntsAre vs ns) (hl : ns.length ≤ sizeLine) (hr : Room k PySem.callerA)
    (F : ∀ base : Heap, K.In base → base.Ns mainGlobals mg → Mods base → FG P w K mg base CX0 k fa fd [x] sp) (hbind : ∀ (s : Shared) (u : Value), BindsTo s fd ⟨[u], []⟩ [(x, u)])
    (hsp : ∀ H : Hp, Only H → SqL K H a (ns.map V.int) → sp [.ref a] H (fun v _ => v = .bl true) fun _ _ _ => False) :
    codeAny (model P w) PySem.callerA (.call (.ref fa) ⟨[.ref a], []⟩) (Kept s₁) s₁ := by
  have rv := vals_ints hi
  have lenV := hi.length
  cases hk : K.lookup a with
  | some o =>
    have e := KX a o hk
    rw [ha] at e
    cases e
    refine call_from (H := fun _ => none) KX hns hb hbb hlim hM hg ha hr (fun _ => .inl rfl) (fun b u z => nomatch (show (none : Option HO) = some u from z)) (fun b z => absurd rfl z) (fun z => absurd rfl z) F hbind (hsp _ (fun _ => .inl rfl) ?_)
    exact .inr ⟨_, vs.toArray, _, hk, rfl, rfl, rfl, by rw [List.size_toArray, lenV]; exact hl, by simpa using rv⟩
  | none =>
    have hO : Only (fun b => if b = a then some (.frz { cls := .type "list", data := .seq vs.toArray } (.lst (ns.map V.int))) else none) := fun b => by
      by_cases e : b = a
      · exact .inr ⟨_, _, if_pos e⟩
      · exact .inl (if_neg e)
    refine call_from KX hns hb hbb hlim hM hg ha hr hO (fun b u z => ?_) (fun b z => ?_) (fun _ => hk) F hbind (hsp _ hO (.inl (.inr ⟨_, if_pos rfl⟩)))
    · by_cases e : b = a
      · have y := (if_pos e).symm.trans z
        cases y
        subst e
        exact ⟨ha, by rw [List.length_map]; exact hl, vs, _, rv, ha⟩
      · have y := (if_neg e).symm.trans z
        cases y
    · exact Decidable.by_contra fun e => z (if_neg e)
end
/-- a law's end: F gives the written part, the function object, the promise over every base -/
theorem walk_ofG {l : PySem.W.OpenLaw} {n k : Nat} {q : Program} {loose : List Str} {XP : (Str → Option Value) → Heap → Prop} {YP : World → Heap → Prop} {d : DefRec} {x : Str}
    (hn : l.most = some n) (hn2 : n ≤ sizeLine) (hdf : d.params.defaults = []) (hr : Room k PySem.callerA)
    (F : ∀ (w : World) (mg : Str → Option Value) (fa : Addr) (h : Heap), YP w h → h.Ns mainGlobals mg → mg d.name = some (.ref fa) →
      ∃ (K : PySem.W.Frag) (fd : FuncData) (sp : Sp), K.In h ∧ Mods h ∧ (∀ (s : Shared) (u : Value), BindsTo s fd ⟨[u], []⟩ [(x, u)]) ∧
        (∀ (H : Hp) (a : Addr) (ns : List Int), ns.length ≤ n → Only H → SqL K H a (ns.map V.int) → sp [.ref a] H (fun v _ => v = .bl true) fun _ _ _ => False) ∧
        ∀ base : Heap, K.In base → base.Ns mainGlobals mg → Mods base → FG l.prog w K mg base CX0 k fa fd [x] sp) :
    PySem.W.WalkO q loose XP YP l.row.toRowW d [] (fun f vs => PySem.call f vs) := by
  refine Att.attach_call hn hdf fun w s₀ s₁ mg mb fa o pm cd doc a vs ns G Y ho hd hcd hmg hobj hints hlen hg => ?_
  obtain ⟨K, fd, sp, KX, hM, hb, hsp, hF⟩ := F w mg fa _ Y G.T.g hmg
  exact law_callG KX G.T.g G.T.b G.T.builtins G.T.nolimit hM hg hobj hints (Nat.le_trans hlen hn2) hr hF hb fun H hO hS => hsp H a ns hlen hO hS
end Gd
set_option Elab.async false
set_option linter.all false
set_option maxRecDepth 100000
/-! Rd: readings, answered one construct at a time. -/
namespace Rd
open PySem PySem.Spec PyProof.Rows L2
section
variable {σ : L2.St} {H : Hp} {Q : VK} {QB : Bool → Hp → Prop} {QA : List V → Hp → Prop} {v x y : V} {ta tb te : TE} {t : TA} {tt tu : TT} {i j : Int} {n : Nat} {D : Ends} {g : TG} {s u : TS}
def rInt1 : List V → Hp → VK → Prop := fun xs H Q => (∃ k, xs = [.int k] ∧ Q (.int k) H) ∨ ∃ k : Bool, xs = [.bl k] ∧ Q (.int (if k then 1 else 0)) H
def rMx : List V → Hp → VK → Prop := fun xs H Q => ∃ i j, xs = [.int i, .int j] ∧ Q (.int (if j > i then j else i)) H
def rLn (K : PySem.W.Frag) : List V → Hp → VK → Prop := fun xs H Q => ∃ p ys, xs = [.ref p] ∧ (SqL K H p ys ∨ SqT K H p ys) ∧ Q (.int ys.length) H
theorem c_int {X : Cx} : CallR X (.type "int") rInt1 := call_int1
theorem c_max {X : Cx} (hc : X.calm = true) : CallR X (.builtin "max") rMx := call_max2 hc
theorem c_len {X : Cx} : CallR X (.builtin "len") (rLn X.K) := call_len_seq
def isB (QB : Bool → Hp → Prop) (x : V) (H : Hp) : Prop := ∃ k, x = .bl k ∧ QB k H
def newL (Q : VK) (xs : List V) (H : Hp) : Prop := xs.length ≤ sizeLine ∧ ∀ p, H p = none → Q (.ref p) (upd H p (.lst xs))
def newT (Q : VK) (xs : List V) (H : Hp) : Prop := xs.length ≤ sizeLine ∧ ∀ p, H p = none → Q (.ref p) (upd H p (.tup xs))
theorem mkL {xs : List V} (q : ∀ p, H p = none → Q (.ref p) (upd H p (.lst xs))) (h : xs.length ≤ 1000 := by exact Nat.le_of_ble_eq_true rfl) : newL Q xs H := ⟨Nat.le_trans h (by decide), q⟩
theorem mkT {xs : List V} (q : ∀ p, H p = none → Q (.ref p) (upd H p (.tup xs))) (h : xs.length ≤ 1000 := by exact Nat.le_of_ble_eq_true rfl) : newT Q xs H := ⟨Nat.le_trans h (by decide), q⟩
theorem var (h : σ[n]? = some (some v)) (q : Q v H) : tVar n σ H Q := ⟨v, h, q⟩
theorem con (q : Q v H) : tC v σ H Q := q
theorem op {r : R2} (q : ta σ H fun x H1 => tb σ H1 fun y H2 => r x y H2 Q) : tOp r ta tb σ H Q := q
theorem un {r : V → Hp → VK → Prop} (q : ta σ H fun x H1 => r x H1 Q) : tUn r ta σ H Q := q
theorem i0 {k : Int → Int → V} (q : Q (k i j) H) : rI0 k (.int i) (.int j) H Q := ⟨i, j, rfl, rfl, q⟩
theorem ic {C : Int → Int → Prop} {k : Int → Int → V} (c : C i j) (q : Q (k i j) H) : rI C k (.int i) (.int j) H Q := ⟨i, j, rfl, rfl, c, q⟩
theorem iu {k : Int → V} (q : Q (k i) H) : rU k (.int i) H Q := ⟨i, rfl, q⟩
theorem nil (q : QA [] H) : tNil σ H QA := q
theorem cons {tr : TA} (q : te σ H fun x H1 => tr σ H1 fun xs H2 => QA (x :: xs) H2) : tCons te tr σ H QA := q
theorem cb {r : List V → Hp → VK → Prop} (q : t σ H fun vs H1 => r vs H1 Q) : tCB r t σ H Q := q
theorem asg (q : te σ H fun x H1 => g x σ H1 D.nx) : tAsg te g D σ H := q
theorem name {R : L2.St → Hp → Prop} (q : R (σ.set n (some v)) H) : gName n v σ H R := q
theorem seq (q : s { D with nx := u D } σ H) : tSeq s u D σ H := q
theorem ret (q : te σ H D.rt) : tRet te D σ H := q
theorem retN (q : D.rt .non H) : tRetN D σ H := q
theorem nxt (q : D.nx σ H) : tNext D σ H := q
theorem tst (q : te σ H fun x H1 => isB QB x H1) : tTest te σ H QB := q
theorem tb_ (q : te σ H fun x H1 => isB QB x H1) : tB te σ H QB := q
theorem tnot (q : tt σ H fun c H1 => QB (!c) H1) : tNot tt σ H QB := q
theorem tor (q : tt σ H fun c H1 => if c = true then QB true H1 else tu σ H1 QB) : tOr tt tu σ H QB := q
theorem tand (q : tt σ H fun c H1 => if c = true then tu σ H1 QB else QB false H1) : tAnd tt tu σ H QB := q
theorem ifs (q : tt σ H fun b H1 => if b = true then s D σ H1 else u D σ H1) : tIfS tt s u D σ H := q
theorem ife (q : tt σ H fun c H1 => if c = true then ta σ H1 Q else tb σ H1 Q) : tIf tt ta tb σ H Q := q
theorem lst (q : t σ H fun xs H1 => newL Q xs H1) : tLst t σ H Q := q
theorem tup (q : t σ H fun xs H1 => newT Q xs H1) : tTup t σ H Q := q
theorem int1 (q : Q (.int i) H) : rInt1 [V.int i] H Q := .inl ⟨i, rfl, q⟩
theorem mx (q : Q (.int (if j > i then j else i)) H) : rMx [V.int i, V.int j] H Q := ⟨i, j, rfl, q⟩
theorem lnL {K : PySem.W.Frag} {p : Addr} {ys : List V} (h : SqL K H p ys) (q : Q (.int ys.length) H) : rLn K [V.ref p] H Q := ⟨p, ys, rfl, .inl h, q⟩
theorem lnT {K : PySem.W.Frag} {p : Addr} {ys : List V} (h : SqT K H p ys) (q : Q (.int ys.length) H) : rLn K [V.ref p] H Q := ⟨p, ys, rfl, .inr h, q⟩
def isI (k : Int → Hp → Prop) (x : V) (H : Hp) : Prop := ∃ i, x = .int i ∧ k i H
theorem int_ {k : Int → Hp → Prop} (q : k i H) : isI k (.int i) H := ⟨i, rfl, q⟩
theorem bits (q : te σ H fun x H1 => isI (fun i H2 => Q (.int (Builtin.Int.intBits i : Nat)) H2) x H1) : tBits te σ H Q := q
theorem sub {to ti : TE} {t : V → V → V → Hp → (Hp → Prop) → Prop} {R : L2.St → Hp → Prop} (q : to σ H fun o H1 => ti σ H1 fun i H2 => t o i v H2 fun H3 => R σ H3) : gSub to ti t v σ H R := q
theorem bl {b : Bool} (q : QB b H) : isB QB (.bl b) H := ⟨b, rfl, q⟩
theorem call {sp : Sp} {dvs : List V} {E : XK} (q : t σ H fun vs H1 => sp (vs ++ dvs) H1 Q E) : tCall sp dvs E t σ H Q := q
theorem exps {K : Ends} (q : te σ H fun _ H1 => K.nx σ H1) : te σ H fun _ H1 => K.nx σ H1 := q
def isP (k : V → V → Hp → Prop) (vs : List V) (H : Hp) : Prop := ∃ v w, vs = [v, w] ∧ k v w H
theorem p2 {k : V → V → Hp → Prop} (q : k x y H) : isP k [x, y] H := ⟨x, y, rfl, q⟩
theorem par {i j : Nat} {ta : TA} (q : ta σ H fun vs H1 => isP (fun v w H2 => D.nx ((σ.set i (some v)).set j (some w)) H2) vs H1) : tPar i j ta D σ H := q
theorem eq_ (h : scal x y = true) (q : Q (.bl (decide (x = y))) H) : rEq x y H Q := ⟨h, q⟩
theorem ne_ (h : scal x y = true) (q : Q (.bl (!decide (x = y))) H) : rNe x y H Q := ⟨h, q⟩
theorem ixL {K : PySem.W.Frag} {p : Addr} {xs : List V} {i : Int} (h : SqL K H p xs) (a : atI xs i = some v) (q : Q v H) : rIxL K (.ref p) (.int i) H Q := ⟨p, xs, i, v, rfl, rfl, h, a, q⟩
theorem ixLT {K : PySem.W.Frag} {p : Addr} {xs : List V} {i : Int} (h : H p = some (.lst xs)) (a : atI xs i = some v) (q : Q v H) : rIxL K (.ref p) (.int i) H Q := ⟨p, xs, i, v, rfl, rfl, SqL.of h, a, q⟩
theorem setL {p : Addr} {xs : List V} {k : Int} {j : Nat} {R : Hp → Prop} (h : H p = some (.lst xs)) (a : ixN xs.length k = some j) (q : R (upd H p (.lst (xs.set j v)))) : rSetL (.ref p) (.int k) v H R := ⟨p, xs, k, j, rfl, rfl, h, a, q⟩
end
/-! ### loops -/
/-- for i in range(n): what is left to answer -/
def loopR (lo : Int) (n : Nat) (g : TG) (tb : TS) (D : Ends) (σ : L2.St) (H : Hp) : Prop := ∃ W : Nat → Nat → L2.St → Hp → Prop, (∃ m, W 0 m σ H) ∧ ∀ i m σ H, W i m σ H →
  ((Itr lo n).stop i H ∧ D.nx σ H) ∨ ((Itr lo n).go i H ∧ ∃ N : L2.St → Hp → Prop, (∀ σ' H', N σ' H' → ∃ m', m' < m ∧ W (i + 1) m' σ' H') ∧ ∀ x H', (Itr lo n).yld i H x H' → g x σ H' fun σ2 H2 => tb { D with nx := N, ct := N, bk := D.nx } σ2 H2)
def isI1 (k : Nat → Hp → Prop) (vs : List V) (H : Hp) : Prop := ∃ j : Int, vs = [.int j] ∧ -(2 ^ 62) ≤ j ∧ j < 2 ^ 62 ∧ k j.toNat H
theorem forR {ta : TA} {g : TG} {tb : TS} {D : Ends} {σ : L2.St} {H : Hp} (q : ta σ H fun vs H1 => isI1 (fun n H2 => loopR 0 n g tb D σ H2) vs H1) : tFor (iRng1 ta) g tb D σ H := q
theorem i1 {k : Nat → Hp → Prop} {j : Int} {H : Hp} (h1 : -(2 ^ 62) ≤ j) (h2 : j < 2 ^ 62) (q : k j.toNat H) : isI1 k [.int j] H := ⟨j, rfl, h1, h2, q⟩
theorem byR {lo : Int} {n : Nat} {g : TG} {tb : TS} {D : Ends} {σ : L2.St} {H : Hp} (Pv : Nat → L2.St → Hp → Prop) (h0 : Pv 0 σ H)
    (hs : ∀ i σ H, i < n → Pv i σ H → g (.int (lo + i)) σ H fun σ2 H2 => tb { D with nx := Pv (i + 1), ct := Pv (i + 1), bk := D.nx } σ2 H2) (hd : ∀ σ H, Pv n σ H → D.nx σ H) : loopR lo n g tb D σ H := for_range Pv h0 hs hd
/-- for x in a list -/
def loopL (K : PySem.W.Frag) (a : Addr) (g : TG) (tb : TS) (D : Ends) (σ : L2.St) (H : Hp) : Prop := ∃ W : Nat → Nat → L2.St → Hp → Prop, (∃ m, W 0 m σ H) ∧ ∀ i m σ H, W i m σ H →
  ((Itl K a).stop i H ∧ D.nx σ H) ∨ ((Itl K a).go i H ∧ ∃ N : L2.St → Hp → Prop, (∀ σ' H', N σ' H' → ∃ m', m' < m ∧ W (i + 1) m' σ' H') ∧ ∀ x H', (Itl K a).yld i H x H' → g x σ H' fun σ2 H2 => tb { D with nx := N, ct := N, bk := D.nx } σ2 H2)
def isL1 (K : PySem.W.Frag) (k : Addr → Hp → Prop) (x : V) (H : Hp) : Prop := ∃ a, x = .ref a ∧ (∃ xs, SqL K H a xs) ∧ k a H
theorem forL {K : PySem.W.Frag} {tl : TE} {g : TG} {tb : TS} {D : Ends} {σ : L2.St} {H : Hp} (q : tl σ H fun x H1 => isL1 K (fun a H2 => loopL K a g tb D σ H2) x H1) : tFor (iList K tl) g tb D σ H := q
theorem l1 {K : PySem.W.Frag} {k : Addr → Hp → Prop} {a : Addr} {xs : List V} {H : Hp} (h : SqL K H a xs) (q : k a H) : isL1 K k (.ref a) H := ⟨a, rfl, ⟨xs, h⟩, q⟩
theorem byL {K : PySem.W.Frag} {a : Addr} {xs : List V} {g : TG} {tb : TS} {D : Ends} {σ : L2.St} {H : Hp} (Pv : Nat → L2.St → Hp → Prop) (h0 : Pv 0 σ H) (hl : ∀ i σ H, i ≤ xs.length → Pv i σ H → SqL K H a xs)
    (hs : ∀ i x σ H, xs[i]? = some x → Pv i σ H → g x σ H fun σ2 H2 => tb { D with nx := Pv (i + 1), ct := Pv (i + 1), bk := D.nx } σ2 H2) (hd : ∀ σ H, Pv xs.length σ H → D.nx σ H) : loopL K a g tb D σ H := for_list Pv h0 hl hs hd
/-- [e for i in range(n) if ..] -/
def compR (lo : Int) (n : Nat) (g : TG) (tt : TT) (te : TE) (vs : List Nat) (σ : L2.St) (D : Addr) (Qd : Hp → Prop) (H1 : Hp) : Prop := ∃ W : Nat → Nat → Hp → Prop, (∃ m, W 0 m (upd H1 D (.lst []))) ∧ ∀ i m H, W i m H →
  ((Itr lo n).stop i H ∧ Qd H) ∨ ((Itr lo n).go i H ∧ ∃ Nx : Hp → Prop, (∀ H', Nx H' → ∃ m', m' < m ∧ W (i + 1) m' H') ∧ ∀ x H', (Itr lo n).yld i H x H' → g x (wipe σ vs) H' fun σ2 H2 => wipe σ2 vs = wipe σ vs ∧ tt σ2 H2 fun b H3 =>
    if b = true then te σ2 H3 fun y H4 => ∃ acc, H4 D = some (.lst acc) ∧ acc.length < sizeLine ∧ Nx (upd H4 D (.lst (acc ++ [y]))) else Nx H3)
def compL (K : PySem.W.Frag) (a : Addr) (g : TG) (tt : TT) (te : TE) (vs : List Nat) (σ : L2.St) (D : Addr) (Qd : Hp → Prop) (H1 : Hp) : Prop := ∃ W : Nat → Nat → Hp → Prop, (∃ m, W 0 m (upd H1 D (.lst []))) ∧ ∀ i m H, W i m H →
  ((Itl K a).stop i H ∧ Qd H) ∨ ((Itl K a).go i H ∧ ∃ Nx : Hp → Prop, (∀ H', Nx H' → ∃ m', m' < m ∧ W (i + 1) m' H') ∧ ∀ x H', (Itl K a).yld i H x H' → g x (wipe σ vs) H' fun σ2 H2 => wipe σ2 vs = wipe σ vs ∧ tt σ2 H2 fun b H3 =>
    if b = true then te σ2 H3 fun y H4 => ∃ acc, H4 D = some (.lst acc) ∧ acc.length < sizeLine ∧ Nx (upd H4 D (.lst (acc ++ [y]))) else Nx H3)
theorem lcR {ta : TA} {g : TG} {tt : TT} {te : TE} {ws : List Nat} {σ : L2.St} {H : Hp} {Q : VK} (q : ta σ H fun vs H1 => isI1 (fun n H2 => ∀ D, H2 D = none → compR 0 n g tt te ws σ D (Q (.ref D)) H2) vs H1) : tLc (iRng1 ta) g tt te ws σ H Q := q
theorem lcL {K : PySem.W.Frag} {tl : TE} {g : TG} {tt : TT} {te : TE} {ws : List Nat} {σ : L2.St} {H : Hp} {Q : VK} (q : tl σ H fun x H1 => isL1 K (fun a H2 => ∀ D, H2 D = none → compL K a g tt te ws σ D (Q (.ref D)) H2) x H1) : tLc (iList K tl) g tt te ws σ H Q := q
/-- the same over a tuple -/
def loopT (K : PySem.W.Frag) (a : Addr) (g : TG) (tb : TS) (D : Ends) (σ : L2.St) (H : Hp) : Prop := ∃ W : Nat → Nat → L2.St → Hp → Prop, (∃ m, W 0 m σ H) ∧ ∀ i m σ H, W i m σ H →
  ((Itt K a).stop i H ∧ D.nx σ H) ∨ ((Itt K a).go i H ∧ ∃ N : L2.St → Hp → Prop, (∀ σ' H', N σ' H' → ∃ m', m' < m ∧ W (i + 1) m' σ' H') ∧ ∀ x H', (Itt K a).yld i H x H' → g x σ H' fun σ2 H2 => tb { D with nx := N, ct := N, bk := D.nx } σ2 H2)
def compT (K : PySem.W.Frag) (a : Addr) (g : TG) (tt : TT) (te : TE) (vs : List Nat) (σ : L2.St) (D : Addr) (Qd : Hp → Prop) (H1 : Hp) : Prop := ∃ W : Nat → Nat → Hp → Prop, (∃ m, W 0 m (upd H1 D (.lst []))) ∧ ∀ i m H, W i m H →
  ((Itt K a).stop i H ∧ Qd H) ∨ ((Itt K a).go i H ∧ ∃ Nx : Hp → Prop, (∀ H', Nx H' → ∃ m', m' < m ∧ W (i + 1) m' H') ∧ ∀ x H', (Itt K a).yld i H x H' → g x (wipe σ vs) H' fun σ2 H2 => wipe σ2 vs = wipe σ vs ∧ tt σ2 H2 fun b H3 =>
    if b = true then te σ2 H3 fun y H4 => ∃ acc, H4 D = some (.lst acc) ∧ acc.length < sizeLine ∧ Nx (upd H4 D (.lst (acc ++ [y]))) else Nx H3)
def isT1 (K : PySem.W.Frag) (k : Addr → Hp → Prop) (x : V) (H : Hp) : Prop := ∃ a, x = .ref a ∧ (∃ xs, SqT K H a xs) ∧ k a H
theorem t1 {K : PySem.W.Frag} {k : Addr → Hp → Prop} {a : Addr} {xs : List V} {H : Hp} (h : SqT K H a xs) (q : k a H) : isT1 K k (.ref a) H := ⟨a, rfl, ⟨xs, h⟩, q⟩
theorem forT {K : PySem.W.Frag} {tl : TE} {g : TG} {tb : TS} {D : Ends} {σ : L2.St} {H : Hp} (q : tl σ H fun x H1 => isT1 K (fun a H2 => loopT K a g tb D σ H2) x H1) : tFor (iTup K tl) g tb D σ H := q
theorem byT {K : PySem.W.Frag} {a : Addr} {xs : List V} {g : TG} {tb : TS} {D : Ends} {σ : L2.St} {H : Hp} (Pv : Nat → L2.St → Hp → Prop) (h0 : Pv 0 σ H) (hl : ∀ i σ H, i ≤ xs.length → Pv i σ H → SqT K H a xs)
    (hs : ∀ i x σ H, xs[i]? = some x → Pv i σ H → g x σ H fun σ2 H2 => tb { D with nx := Pv (i + 1), ct := Pv (i + 1), bk := D.nx } σ2 H2) (hd : ∀ σ H, Pv xs.length σ H → D.nx σ H) : loopT K a g tb D σ H := for_tup Pv h0 hl hs hd
theorem lcT {K : PySem.W.Frag} {tl : TE} {g : TG} {tt : TT} {te : TE} {ws : List Nat} {σ : L2.St} {H : Hp} {Q : VK} (q : tl σ H fun x H1 => isT1 K (fun a H2 => ∀ D, H2 D = none → compT K a g tt te ws σ D (Q (.ref D)) H2) x H1) : tLc (iTup K tl) g tt te ws σ H Q := q
theorem pi_tupK {X : Cx} {K : PySem.W.Frag} {tg l : Expr} {tl : TE} (e : X.K = K) (hl : PE X l tl) : PI X tg l (iTup K tl) := e ▸ pi_tup hl
/-- the end of a comprehension's turn: the item goes to the list at D -/
def accs (D : Addr) (Nx : Hp → Prop) (y : V) (H : Hp) : Prop := ∃ acc, H D = some (.lst acc) ∧ acc.length < sizeLine ∧ Nx (upd H D (.lst (acc ++ [y])))
def turnC (g : TG) (tt : TT) (te : TE) (ws : List Nat) (σ : L2.St) (D : Addr) (Nx : Hp → Prop) (x : V) (H : Hp) : Prop := g x (wipe σ ws) H fun σ2 H2 => wipe σ2 ws = wipe σ ws ∧ tt σ2 H2 fun b H3 => if b = true then te σ2 H3 fun y H4 => accs D Nx y H4 else Nx H3
theorem byCR {lo : Int} {n : Nat} {g : TG} {tt : TT} {te : TE} {ws : List Nat} {σ : L2.St} {H1 : Hp} {D : Addr} {Qd : Hp → Prop} (Pv : Nat → Hp → Prop) (h0 : Pv 0 (upd H1 D (.lst [])))
    (hs : ∀ i H, i < n → Pv i H → turnC g tt te ws σ D (Pv (i + 1)) (.int (lo + i)) H) (hd : ∀ H, Pv n H → Qd H) : compR lo n g tt te ws σ D Qd H1 := lc_range Pv h0 hs hd
theorem byCL {K : PySem.W.Frag} {a : Addr} {xs : List V} {g : TG} {tt : TT} {te : TE} {ws : List Nat} {σ : L2.St} {H1 : Hp} {D : Addr} {Qd : Hp → Prop} (Pv : Nat → Hp → Prop) (h0 : Pv 0 (upd H1 D (.lst []))) (hl : ∀ i H, i ≤ xs.length → Pv i H → SqL K H a xs)
    (hs : ∀ i x H, xs[i]? = some x → Pv i H → turnC g tt te ws σ D (Pv (i + 1)) x H) (hd : ∀ H, Pv xs.length H → Qd H) : compL K a g tt te ws σ D Qd H1 := lc_list Pv h0 hl hs hd
theorem byCT {K : PySem.W.Frag} {a : Addr} {xs : List V} {g : TG} {tt : TT} {te : TE} {ws : List Nat} {σ : L2.St} {H1 : Hp} {D : Addr} {Qd : Hp → Prop} (Pv : Nat → Hp → Prop) (h0 : Pv 0 (upd H1 D (.lst []))) (hl : ∀ i H, i ≤ xs.length → Pv i H → SqT K H a xs)
    (hs : ∀ i x H, xs[i]? = some x → Pv i H → turnC g tt te ws σ D (Pv (i + 1)) x H) (hd : ∀ H, Pv xs.length H → Qd H) : compT K a g tt te ws σ D Qd H1 := lc_tup Pv h0 hl hs hd
def rListOf (K : PySem.W.Frag) : List V → Hp → VK → Prop := fun xs H Q => ∃ p ys, xs = [.ref p] ∧ (SqL K H p ys ∨ SqT K H p ys) ∧ ∀ l, H l = none → Q (.ref l) (upd H l (.lst ys))
theorem c_listOf {X : Cx} : CallR X (.type "list") (rListOf X.K) := call_list_of
def rTupOf (K : PySem.W.Frag) : List V → Hp → VK → Prop := fun xs H Q => ∃ p ys, xs = [.ref p] ∧ ((SqL K H p ys ∧ ∀ l, H l = none → Q (.ref l) (upd H l (.tup ys))) ∨ (SqT K H p ys ∧ Q (.ref p) H))
theorem c_tupOf {X : Cx} : CallR X (.type "tuple") (rTupOf X.K) := call_tuple_of
theorem c_sum {X : Cx} (hc : X.calm = true) : CallR X (.builtin "sum") (rSum X.K) := cr_sum hc
/-- a turn of a comprehension to one name, no if -/
theorem turn1 {n : Nat} {te : TE} {ws : List Nat} {σ : L2.St} {D : Addr} {Nx : Hp → Prop} {x : V} {H : Hp} (w : wipe ((wipe σ ws).set n (some x)) ws = wipe σ ws) (q : te ((wipe σ ws).set n (some x)) H fun y H4 => accs D Nx y H4) : turnC (gName n) tYes te ws σ D Nx x H :=
  ⟨w, (show (if true = true then te ((wipe σ ws).set n (some x)) H (fun y H4 => accs D Nx y H4) else Nx H) from iteT q)⟩
theorem turnIf {n : Nat} {tt : TT} {te : TE} {ws : List Nat} {σ : L2.St} {D : Addr} {Nx : Hp → Prop} {x : V} {H : Hp} (w : wipe ((wipe σ ws).set n (some x)) ws = wipe σ ws)
    (q : tt ((wipe σ ws).set n (some x)) H fun b H3 => if b = true then te ((wipe σ ws).set n (some x)) H3 fun y H4 => accs D Nx y H4 else Nx H3) : turnC (gName n) tt te ws σ D Nx x H := ⟨w, q⟩
theorem acc {D : Addr} {Nx : Hp → Prop} {y : V} {H : Hp} {ys : List V} (h : H D = some (.lst ys)) (z : ys.length < 1000) (q : Nx (upd H D (.lst (ys ++ [y])))) : accs D Nx y H := ⟨ys, h, Nat.lt_of_lt_of_le z (by decide), q⟩
/-! ### any walk -/
def loopJ (J : It) (g : TG) (tb : TS) (D : Ends) (σ : L2.St) (H : Hp) : Prop := ∃ W : Nat → Nat → L2.St → Hp → Prop, (∃ m, W 0 m σ H) ∧ ∀ i m σ H, W i m σ H →
  (J.stop i H ∧ D.nx σ H) ∨ (J.go i H ∧ ∃ N : L2.St → Hp → Prop, (∀ σ' H', N σ' H' → ∃ m', m' < m ∧ W (i + 1) m' σ' H') ∧ ∀ x H', J.yld i H x H' → g x σ H' fun σ2 H2 => tb { D with nx := N, ct := N, bk := D.nx } σ2 H2)
def compJ (J : It) (g : TG) (tt : TT) (te : TE) (vs : List Nat) (σ : L2.St) (D : Addr) (Qd : Hp → Prop) (H1 : Hp) : Prop := ∃ W : Nat → Nat → Hp → Prop, (∃ m, W 0 m (upd H1 D (.lst []))) ∧ ∀ i m H, W i m H →
  (J.stop i H ∧ Qd H) ∨ (J.go i H ∧ ∃ Nx : Hp → Prop, (∀ H', Nx H' → ∃ m', m' < m ∧ W (i + 1) m' H') ∧ ∀ x H', J.yld i H x H' → g x (wipe σ vs) H' fun σ2 H2 => wipe σ2 vs = wipe σ vs ∧ tt σ2 H2 fun b H3 =>
    if b = true then te σ2 H3 fun y H4 => ∃ acc, H4 D = some (.lst acc) ∧ acc.length < sizeLine ∧ Nx (upd H4 D (.lst (acc ++ [y]))) else Nx H3)
theorem byJ {J : It} {n : Nat} {G : Hp → Prop} {Y : Nat → Hp → V → Hp → Prop} (w : Walk J n G Y) {g : TG} {tb : TS} {D : Ends} {σ : L2.St} {H : Hp} (Pv : Nat → L2.St → Hp → Prop) (h0 : Pv 0 σ H) (hG : ∀ i σ H, i ≤ n → Pv i σ H → G H)
    (hs : ∀ i x σ H H', i < n → Pv i σ H → Y i H x H' → g x σ H' fun σ2 H2 => tb { D with nx := Pv (i + 1), ct := Pv (i + 1), bk := D.nx } σ2 H2) (hd : ∀ σ H, Pv n σ H → D.nx σ H) : loopJ J g tb D σ H := for_it w Pv h0 hG hs hd
theorem byCJ {J : It} {n : Nat} {G : Hp → Prop} {Y : Nat → Hp → V → Hp → Prop} (w : Walk J n G Y) {g : TG} {tt : TT} {te : TE} {ws : List Nat} {σ : L2.St} {H1 : Hp} {D : Addr} {Qd : Hp → Prop} (Pv : Nat → Hp → Prop) (h0 : Pv 0 (upd H1 D (.lst []))) (hG : ∀ i H, i ≤ n → Pv i H → G H)
    (hs : ∀ i x H H', i < n → Pv i H → Y i H x H' → turnC g tt te ws σ D (Pv (i + 1)) x H') (hd : ∀ H, Pv n H → Qd H) : compJ J g tt te ws σ D Qd H1 := lc_it w Pv h0 hG hs hd
def isS (k : Str → Hp → Prop) (x : V) (H : Hp) : Prop := ∃ z, x = .str z ∧ k z H
theorem str_ {k : Str → Hp → Prop} {z : Str} {H : Hp} (q : k z H) : isS k (.str z) H := ⟨z, rfl, q⟩
theorem forS {te : TE} {g : TG} {tb : TS} {D : Ends} {σ : L2.St} {H : Hp} (q : te σ H fun x H1 => isS (fun z H2 => loopJ (Its z) g tb D σ H2) x H1) : tFor (iStr te) g tb D σ H := q
theorem lcS {tl : TE} {g : TG} {tt : TT} {te : TE} {ws : List Nat} {σ : L2.St} {H : Hp} {Q : VK} (q : tl σ H fun x H1 => isS (fun z H2 => ∀ D, H2 D = none → compJ (Its z) g tt te ws σ D (Q (.ref D)) H2) x H1) : tLc (iStr tl) g tt te ws σ H Q := q
def isE (K : PySem.W.Frag) (k : Addr → Hp → Prop) (vs : List V) (H : Hp) : Prop := ∃ a xs, vs = [.ref a] ∧ SqL K H a xs ∧ k a H
theorem e1 {K : PySem.W.Frag} {k : Addr → Hp → Prop} {a : Addr} {xs : List V} {H : Hp} (h : SqL K H a xs) (q : k a H) : isE K k [.ref a] H := ⟨a, xs, rfl, h, q⟩
theorem forE {K : PySem.W.Frag} {ta : TA} {g : TG} {tb : TS} {D : Ends} {σ : L2.St} {H : Hp} (q : ta σ H fun vs H1 => isE K (fun a H2 => loopJ (Ite K a) g tb D σ H2) vs H1) : tFor (iEnum K ta) g tb D σ H := q
theorem pi_enumK {X : Cx} {K : PySem.W.Frag} {e : Expr} {ta : TA} {p pos tpos : Pos} {elts : List Expr} {kk : Nat} (eK : X.K = K) (hg : Gl X "enumerate") (hm : X.mg "enumerate" = none) (ha : PA X [e] ta) (hs : starEach [e] X.env = [(false, eval e X.env)] := by rfl) :
    PI X (.Tuple elts kk tpos) (.Call (.Name "enumerate" p) [e] [] pos) (iEnum K ta) := eK ▸ pi_enum hg hm ha hs
theorem din {ty td : TE} {σ : L2.St} {H : Hp} {Q : VK} (q : ty σ H fun y H1 => td σ H1 fun x H2 => ∃ a o, x = .ref a ∧ DGet H2 a y o ∧ Q (.bl o.isSome) H2) : tDIn ty td σ H Q := q
theorem dput {td ty tv : TE} {D : Ends} {σ : L2.St} {H : Hp} (q : tv σ H fun v H1 => td σ H1 fun x H2 => ty σ H2 fun y H3 => ∃ a H4, x = .ref a ∧ DPut H3 a y v H4 ∧ D.nx σ H4) : sDPut td ty tv D σ H := q
def isD (k : Addr → Obj → List (Key × V) → Hp → Prop) (x : V) (H : Hp) : Prop := ∃ d o kvs, x = .ref d ∧ H d = some (.frz o (.dK kvs)) ∧ k d o kvs H
theorem d1 {k : Addr → Obj → List (Key × V) → Hp → Prop} {d : Addr} {o : Obj} {kvs : List (Key × V)} {H : Hp} (h : H d = some (.frz o (.dK kvs))) (q : k d o kvs H) : isD k (.ref d) H := ⟨d, o, kvs, rfl, h, q⟩
theorem lcI {td : TE} {g : TG} {tt : TT} {te : TE} {ws : List Nat} {σ : L2.St} {H : Hp} {Q : VK} (q : td σ H fun x H1 => isD (fun d o kvs H2 => ∀ D, H2 D = none → compJ (Iti d o kvs) g tt te ws σ D (Q (.ref D)) H2) x H1) : tLc (iItems td) g tt te ws σ H Q := q
/-- a chain of two comparisons -/
theorem chain {r r' : R2} {ta tb tc : TE} {σ : L2.St} {H : Hp} {Q : VK} (q : ta σ H fun x H1 => tb σ H1 fun y H2 => r x y H2 fun z H3 => isB (fun k H4 => if k = true then tc σ H4 fun w' H5 => r' y w' H5 Q else Q (.bl false) H4) z H3) : tChain r r' ta tb tc σ H Q := q
/-- and, or, not of truth values -/
theorem andv {ta tb : TE} {σ : L2.St} {H : Hp} {Q : VK} (q : ta σ H fun x H1 => isB (fun c H2 => if c = true then tb σ H2 Q else Q (.bl false) H2) x H1) : tAndV ta tb σ H Q := q
theorem orv {ta tb : TE} {σ : L2.St} {H : Hp} {Q : VK} (q : ta σ H fun x H1 => isB (fun c H2 => if c = true then Q (.bl true) H2 else tb σ H2 Q) x H1) : tOrV ta tb σ H Q := q
theorem notv {ta : TE} {σ : L2.St} {H : Hp} {Q : VK} (q : ta σ H fun x H1 => isB (fun c H2 => Q (.bl (!c)) H2) x H1) : tNotV ta σ H Q := q
/-! targets of two -/
def isTg (K : PySem.W.Frag) (n : Nat) (k : List V → Hp → Prop) (v : V) (H : Hp) : Prop := ∃ a xs, v = .ref a ∧ SqT K H a xs ∧ xs.length = n ∧ k xs H
theorem tgt {K : PySem.W.Frag} {n : Nat} {t : TGs} {v : V} {σ : L2.St} {H : Hp} {R : L2.St → Hp → Prop} (q : isTg K n (fun xs H2 => t xs σ H2 R) v H) : gTup K n t v σ H R := q
theorem tgAt {K : PySem.W.Frag} {n : Nat} {k : List V → Hp → Prop} {a : Addr} {xs : List V} {H : Hp} (h : SqT K H a xs) (l : xs.length = n) (q : k xs H) : isTg K n k (.ref a) H := ⟨a, xs, rfl, h, l, q⟩
theorem pg_tupK {X : Cx} {K : PySem.W.Frag} {es : List Expr} {k : Nat} {t : TGs} {n : Nat} {pos : Pos} (eK : X.K = K) (hc : X.calm = true) (h : PGs X es t) (hn : (assignEach es X.env).length = n := by rfl) (hst : (assignEach es X.env).findIdx? (·.1) = none := by rfl) : PG X (.Tuple es k pos) (gTup K n t) := eK ▸ pg_tup hc h hn hst
theorem gcons {t : TG} {u : TGs} {v : V} {r : List V} {σ : L2.St} {H : Hp} {R : L2.St → Hp → Prop} (q : t v σ H fun σ' H' => u r σ' H' R) : gCons t u (v :: r) σ H R := ⟨v, r, rfl, q⟩
theorem gnil {σ : L2.St} {H : Hp} {R : L2.St → Hp → Prop} (q : R σ H) : gNil [] σ H R := ⟨rfl, q⟩
/-! ### fields, instances -/
theorem pe_fldK {X : Cx} {K : PySem.W.Frag} {e : Expr} {f : Str} {pos : Pos} {ta : TE} (eK : X.K = K) (he : PE X e ta) (hb : attributeBase e f X.env (eval e X.env) = eval e X.env) : PE X (.Attribute e f pos) (tFld K ta f) := eK ▸ pe_fld he hb
theorem ps_fldK {X : Cx} {K : PySem.W.Frag} {o value : Expr} {f : Str} {pos pos' : Pos} {ta tv : TE} (eK : X.K = K) (ha : PE X o ta) (hv : PE X value tv) (hs : swapsWith value (some (.Attribute o f pos')) pos.line X.env = pure false) : PS X (.Assign [.Attribute o f pos'] value pos) (sFld K ta tv f) := eK ▸ ps_fld ha hv hs
def fldOf (K : PySem.W.Frag) (f : Str) (Q : VK) (x : V) (H1 : Hp) : Prop := ∃ a C dx fs v, x = .ref a ∧ H1 a = some (.ins C dx fs) ∧ Cls K C ∧ NoAttr K C f ∧ fs.lookup f = some v ∧ Q v H1
theorem fld {K : PySem.W.Frag} {f : Str} {ta : TE} {σ : L2.St} {H : Hp} {Q : VK} (q : ta σ H fun x H1 => fldOf K f Q x H1) : tFld K ta f σ H Q := q
theorem fldAt {K : PySem.W.Frag} {f : Str} {Q : VK} {H1 : Hp} {a C dx : Addr} {fs : List (Str × V)} {v : V} (h : H1 a = some (.ins C dx fs)) (c : Cls K C) (n : NoAttr K C f) (l : fs.lookup f = some v) (q : Q v H1) : fldOf K f Q (.ref a) H1 := ⟨a, C, dx, fs, v, rfl, h, c, n, l, q⟩
def fldTo (K : PySem.W.Frag) (f : Str) (y : V) (R : Hp → Prop) (x : V) (H2 : Hp) : Prop := ∃ a C dx fs, x = .ref a ∧ H2 a = some (.ins C dx fs) ∧ Cls K C ∧ NoAttr K C f ∧ fs.length < 1000 ∧ R (upd H2 a (.ins C dx (putF f y fs)))
theorem sfld {K : PySem.W.Frag} {f : Str} {ta tv : TE} {D : Ends} {σ : L2.St} {H : Hp} (q : tv σ H fun y H1 => ta σ H1 fun x H2 => fldTo K f y (fun H3 => D.nx σ H3) x H2) : sFld K ta tv f D σ H := q
theorem fldPut {K : PySem.W.Frag} {f : Str} {y : V} {R : Hp → Prop} {H2 : Hp} {a C dx : Addr} {fs : List (Str × V)} (h : H2 a = some (.ins C dx fs)) (c : Cls K C) (n : NoAttr K C f) (q : R (upd H2 a (.ins C dx (putF f y fs)))) (l : fs.length < 1000 := by exact Nat.le_of_ble_eq_true rfl) : fldTo K f y R (.ref a) H2 := ⟨a, C, dx, fs, rfl, h, c, n, l, q⟩
def methOf (C : Addr) (m : Str) (t : L2.St → Hp → (List V → Hp → Prop) → Prop) (σ : L2.St) (k : List V → Hp → Prop) (x : V) (H1 : Hp) : Prop := ∃ a dx fs, x = .ref a ∧ H1 a = some (.ins C dx fs) ∧ fs.lookup m = none ∧ t σ H1 fun vs H2 => k (x :: vs) H2
theorem meth {C : Addr} {m : Str} {sp : Sp} {dvs : List V} {E : XK} {ta : TE} {t : TA} {σ : L2.St} {H : Hp} {Q : VK} (q : ta σ H fun x H1 => ∃ a dx fs, x = .ref a ∧ H1 a = some (.ins C dx fs) ∧ fs.lookup m = none ∧ t σ H1 fun vs H2 => sp (x :: (vs ++ dvs)) H2 Q E) : tMeth C m sp dvs E ta t σ H Q := q
theorem methAt {C a dx : Addr} {m : Str} {fs : List (Str × V)} {H1 : Hp} {k : Prop} (h : H1 a = some (.ins C dx fs)) (l : fs.lookup m = none) (q : k) : ∃ a' dx' fs', V.ref a = .ref a' ∧ H1 a' = some (.ins C dx' fs') ∧ fs'.lookup m = none ∧ k := ⟨a, dx, fs, rfl, h, l, q⟩
def rListD2 : List V → Hp → VK → Prop := fun xs H Q => ∃ (a : Addr) (kvs : List (Key × V)), xs = [.ref a] ∧ L2.Rd H a (.dK kvs) ∧ ∀ p, H p = none → Q (.ref p) (upd H p (.lst (kvs.map fun kv => kV kv.1)))
theorem c_listD {X : Cx} (hc : X.calm = true) : CallR X (.type "list") rListD2 := call_listD hc
def rLs : List V → Hp → VK → Prop := fun xs H Q => ∃ z, xs = [.str z] ∧ z.length ≤ sizeLine ∧ Q (.int z.length) H
theorem c_lens {X : Cx} : CallR X (.builtin "len") rLs := call_len_str
theorem lens {z : Str} {H : Hp} {Q : VK} (h : z.length ≤ 1000) (q : Q (.int z.length) H) : rLs [.str z] H Q := ⟨z, rfl, Nat.le_trans h (by decide), q⟩
def rNis : R2 := fun x y H Q => ∃ (c : Nat) (z : Str), x = .str ⟨#[c]⟩ ∧ y = .str z ∧ Q (.bl (!decide (c ∈ z.cps.toList))) H
theorem op_nis {X : Cx} : OpR X (compareOp .NotIn) rNis := op_notIn_sign
theorem inSeq {K : PySem.W.Frag} {neg : Bool} {x : V} {p : Addr} {xs : List V} {H : Hp} {Q : VK} (h : SqL K H p xs) (fx : flatV x = true) (fs : xs.all flatV = true) (q : Q (.bl (if neg then !inV x xs else inV x xs)) H) : rIn K neg x (.ref p) H Q := ⟨p, xs, rfl, .inl h, fx, fs, q⟩
/-! ### while -/
def wk (W : Nat → L2.St → Hp → Prop) (tb : TS) (D : Ends) (m : Nat) (σ : L2.St) (b : Bool) (H1 : Hp) : Prop := if b = true then ∃ N : L2.St → Hp → Prop, (∀ σ' H', N σ' H' → ∃ m', m' < m ∧ W m' σ' H') ∧ tb { D with nx := N, ct := N, bk := D.nx } σ H1 else D.nx σ H1
theorem byW {c : TT} {tb : TS} {D : Ends} {σ : L2.St} {H : Hp} (W : Nat → L2.St → Hp → Prop) (m : Nat) (h0 : W m σ H) (hs : ∀ m σ H, W m σ H → c σ H fun b H1 => wk W tb D m σ b H1) : tWhile c tb D σ H := ⟨W, ⟨m, h0⟩, hs⟩
theorem wkT {W : Nat → L2.St → Hp → Prop} {tb : TS} {D : Ends} {m : Nat} {σ : L2.St} {b : Bool} {H1 : Hp} (h : b = true) (q : tb { D with nx := fun σ' H' => ∃ m', m' < m ∧ W m' σ' H', ct := fun σ' H' => ∃ m', m' < m ∧ W m' σ' H', bk := D.nx } σ H1) : wk W tb D m σ b H1 := by
  unfold wk
  rw [if_pos h]
  exact ⟨_, fun _ _ z => z, q⟩
theorem wkF {W : Nat → L2.St → Hp → Prop} {tb : TS} {D : Ends} {m : Nat} {σ : L2.St} {b : Bool} {H1 : Hp} (h : b = false) (q : D.nx σ H1) : wk W tb D m σ b H1 := by
  unfold wk
  rw [if_neg (by rw [h]; exact Bool.false_ne_true)]
  exact q
theorem wkB {W : Nat → L2.St → Hp → Prop} {tb : TS} {D : Ends} {m : Nat} {σ : L2.St} {b : Bool} {H1 : Hp} (h1 : b = true → tb { D with nx := fun σ' H' => ∃ m', m' < m ∧ W m' σ' H', ct := fun σ' H' => ∃ m', m' < m ∧ W m' σ' H', bk := D.nx } σ H1) (h2 : b = false → D.nx σ H1) : wk W tb D m σ b H1 := by
  cases b with
  | true => exact wkT rfl (h1 rfl)
  | false => exact wkF rfl (h2 rfl)
/-! ### slices, walks -/
def slL (K : PySem.W.Frag) (x : V) (lo hi : Option Int) (H : Hp) (Q : VK) : Prop := rSlL K x lo hi H Q
section
variable {K : PySem.W.Frag} {σ : L2.St} {H : Hp} {Q : VK} {a : Addr} {xs : List V} {lo hi : Option Int}
theorem sl {r : V → Option Int → Option Int → Hp → VK → Prop} {te : TE} {tl th : TO} (q : te σ H fun x H1 => tl σ H1 fun l H2 => th σ H2 fun u H3 => r x l u H3 Q) : tSl r te tl th σ H Q := q
theorem noPart {Q : Option Int → Hp → Prop} (q : Q none H) : tNoPart σ H Q := q
theorem part {te : TE} {Q : Option Int → Hp → Prop} (q : te σ H fun x H1 => isI (fun i H2 => Q (some i) H2) x H1) : tPart te σ H Q := q
theorem ixT {p : Addr} {xs : List V} {v : V} {i : Int} (h : SqT K H p xs) (a : atI xs i = some v) (q : Q v H) : rIxT K (.ref p) (.int i) H Q := ⟨p, xs, i, v, rfl, rfl, h, a, q⟩
theorem slOf (h : SqL K H a xs) (q : ∀ p, H p = none → Q (.ref p) (upd H p (.lst (cutV xs lo hi)))) : rSlL K (.ref a) lo hi H Q := ⟨a, xs, rfl, h, q⟩
end
theorem pe_revLK {X : Cx} {K : PySem.W.Frag} {e : Expr} {te : TE} {k : Nat} {p1 p2 p3 pos : Pos} (eK : X.K = K) (he : PE X e te) : PE X (.Subscript e (.Slice none none (some (.UnaryOp .USub (.Constant (.int 1) k p1) p2)) p3) pos) (tRevL K te) := eK ▸ pe_revL he
def revOf (K : PySem.W.Frag) (Q : VK) (x : V) (H1 : Hp) : Prop := ∃ a xs, x = .ref a ∧ SqL K H1 a xs ∧ ∀ p, H1 p = none → Q (.ref p) (upd H1 p (.lst xs.reverse))
theorem rev {K : PySem.W.Frag} {te : TE} {σ : L2.St} {H : Hp} {Q : VK} (q : te σ H fun x H1 => revOf K Q x H1) : tRevL K te σ H Q := q
theorem revAt {K : PySem.W.Frag} {H : Hp} {Q : VK} {a : Addr} {xs : List V} (h : SqL K H a xs) (q : ∀ p, H p = none → Q (.ref p) (upd H p (.lst xs.reverse))) : revOf K Q (.ref a) H := ⟨a, xs, rfl, h, q⟩
theorem drop {te : TE} {D : Ends} {σ : L2.St} {H : Hp} (q : te σ H fun _ H1 => D.nx σ H1) : tDrop te D σ H := q
theorem bm {K : PySem.W.Frag} {T : String} {r : V → List V → Hp → VK → Prop} {to : TE} {t : TA} {σ : L2.St} {H : Hp} {Q : VK} (q : to σ H fun x H1 => tyV K T x H1 ∧ t σ H1 fun xs H2 => r x xs H2 Q) : tBM K T r to t σ H Q := q
/-- append to a list -/
theorem app {K : PySem.W.Frag} {t : TA} {H : Hp} {σ : L2.St} {Q : VK} {l : Addr} {xs : List V} (h : H l = some (.lst xs)) (q : t σ H fun vs H1 => rAppend (.ref l) vs H1 Q) : tyV K "list" (.ref l) H ∧ t σ H fun vs H2 => rAppend (.ref l) vs H2 Q := ⟨.inl ⟨rfl, _, .inl (.inl h)⟩, q⟩
theorem appTo {H : Hp} {Q : VK} {l : Addr} {xs : List V} {y : V} (h : H l = some (.lst xs)) (n : xs.length < 1000) (q : Q .non (upd H l (.lst (xs ++ [y])))) : rAppend (.ref l) [y] H Q := ⟨l, xs, y, rfl, rfl, h, Nat.lt_of_lt_of_le n (by decide), q⟩
theorem pi_listK {X : Cx} {K : PySem.W.Frag} {tg l : Expr} {tl : TE} (e : X.K = K) (hl : PE X l tl) : PI X tg l (iList K tl) := e ▸ pi_list hl
theorem br {b : Bool} {A B : Prop} (h1 : b = true → A) (h2 : b = false → B) : if b = true then A else B := by
  cases b with
  | true => exact by rw [if_pos rfl]; exact h1 rfl
  | false => exact by rw [if_neg Bool.false_ne_true]; exact h2 rfl
theorem brT {b : Bool} {A B : Prop} (h : b = true) (q : A) : if b = true then A else B := by rw [if_pos h]; exact q
theorem brF {b : Bool} {A B : Prop} (h : b = false) (q : B) : if b = true then A else B := by rw [if_neg (by rw [h]; exact Bool.false_ne_true)]; exact q
theorem szd {n : Nat} (h : n ≤ 1000) : n ≤ sizeLine := Nat.le_trans h (by decide)
end Rd
set_option Elab.async false
set_option linter.all false
set_option maxRecDepth 100000
set_option maxHeartbeats 4000000
/-! SetS: len(set(xs)) of different texts. -/
namespace SetS
open PySem PySem.Spec PyProof.Rows
abbrev blank (led : Bool) : Obj := { cls := .type "set", dict := none, data := .set #[] 0 (.fresh 0 0 led) }
/-- the texts told so far -/
abbrev told (xs : List Str) (i : Nat) : Str → Bool := fun y => (xs.take i).any (· == y)
theorem told_step {xs : List Str} {i : Nat} {x : Str} (h : xs[i]? = some x) (y : Str) : (told xs i y || decide (y = x)) = told xs (i + 1) y := by
  show (_ || _) = (xs.take (i + 1)).any (· == y)
  rw [List.take_add_one, h, List.any_append]
  congr 1
  show decide (y = x) = ([x].any (· == y))
  rw [List.any_cons, List.any_nil, Bool.or_false]
  by_cases e : y = x
  · rw [e, decide_eq_true rfl, beq_self_eq_true]
  · rw [decide_eq_false e]
    exact (beq_eq_false_iff_ne.mpr (Ne.symm e)).symm
theorem told_new {xs : List Str} (nd : xs.Nodup) {i : Nat} {x : Str} (h : xs[i]? = some x) : told xs i x = false := by
  cases c : told xs i x with
  | false => rfl
  | true =>
    obtain ⟨z, hz, ez⟩ := List.any_eq_true.mp c
    have ez : z = x := eq_of_beq ez
    subst ez
    obtain ⟨hi, hx⟩ := List.getElem?_eq_some_iff.mp h
    obtain ⟨j, hj, hjx⟩ := List.mem_iff_getElem.mp hz
    rw [List.length_take] at hj
    rw [List.getElem_take] at hjx
    exact absurd (hjx.trans hx.symm) (List.pairwise_iff_getElem.mp nd j i (by omega) hi (by omega))
section
variable {prog : Program} {w : World} {A : Around} {R : Result → Shared → Prop} {I : Addr} {fp wr : List Addr} {G : Array GenState → Array GenState → Prop} {n : Nat} {P : Nat → Value → Prop} {St : Nat → Shared → Prop}
theorem run_loop (W : WalksS prog w A.in1 I fp wr G n P St) (S : Addr) (nS : S ∉ fp) {xs : List Str} (nd : xs.Nodup) (len : xs.length = n) (small : n ≤ 100) (isText : ∀ i v, P i v → ∃ x t, xs[i]? = some x ∧ v = .str x t) :
    ∀ (k i : Nat) (s : Shared), i + k = n → St i s → s.heap.SetOf (PySem.strKind prog w) S (told xs i) i →
      (∀ s', Moved (S :: wr) G s s' → s'.heap.SetOf (PySem.strKind prog w) S (told xs n) n → R (.ok (.ret .none)) s') → codeAny (model prog w) A (.builtin "set.update.loop" ⟨[.ref S, .ref I], []⟩) R s := by
  have out : S ∉ wr := fun z => nS (W.sub _ z)
  have up : ∀ b ∈ wr, b ∈ S :: wr := fun b z => List.mem_cons_of_mem _ z
  have stays : ∀ {s s' : Shared} {f : Str → Bool} {m : Nat}, Moved wr G s s' → s.heap.SetOf (PySem.strKind prog w) S f m → s'.heap.SetOf (PySem.strKind prog w) S f m := fun hm ⟨o, es, ep, t, ho, r⟩ => ⟨o, es, ep, t, hm.heap S _ out ho, r⟩
  intro k
  induction k with
  | zero =>
    intro i s hi st hS hR
    rw [Nat.add_zero] at hi
    subst hi
    refine codeAny_builtin PyProof.Rows.F.entry_set_update_loop ?_
    rw [Around.under_plainId PyProof.Rows.F.plain_set_update_loop _]
    show wpAny _ A.in1 (pyNext (.ref I) >>= _) _ _ s
    exact wpAny_bind (W.done s _ _ st fun s' hm => wpAny_pure (hR s' (hm.mono up) (stays hm hS)))
  | succ k ih =>
    intro i s hi st hS hR
    refine codeAny_builtin PyProof.Rows.F.entry_set_update_loop ?_
    rw [Around.under_plainId PyProof.Rows.F.plain_set_update_loop _]
    show wpAny _ A.in1 (pyNext (.ref I) >>= _) _ _ s
    refine wpAny_bind (W.item i s _ _ (by omega) st fun v s1 hv st1 hm => ?_)
    obtain ⟨x, t, hx, rfl⟩ := isText i v hv
    have h1 := stays hm hS
    show wpAny _ A.in1 (holding [Value.str x t] (setAdd S (.str x t)) >>= _) _ _ s1
    refine wpAny_bind (wpAny_holding ?_)
    unfold setAdd
    refine wpAny_holding (wpAny_bind ((PySem.strKind prog w).pyHash (k := x) (strKind_is _ _ _ _) ?_))
    refine wpAny_setAddHashed_of (knd := PySem.strKind prog w) (s := { s1 with toks := s1.toks + 1 }) (strKind_is _ _ _ _) rfl h1 (by unfold scanBound; omega) fun h' same h2 => ?_
    have h3 : h'.SetOf (PySem.strKind prog w) S (told xs (i + 1)) (i + 1) := PyProof.Rows.SetOf_congr h2 (told_step hx) (by rw [told_new nd hx]; rfl)
    refine wpAny_pure ⟨plainId_quiet PyProof.Rows.F.plain_set_update_loop _, ih (i + 1) _ (by omega) (W.frame _ s1 _ _ st1 (Nat.le_succ _) fun b hb o e => ?_) h3 fun s2 m2 h4 => ?_⟩
    · exact (same.2 b fun z => nS (z ▸ hb)).trans e
    · refine hR s2 (Moved.trans W.gtrans ((hm.mono up).then_heap (Nat.le_succ _) fun b o hb e => ?_) m2) h4
      exact (same.2 b fun z => hb (z ▸ List.mem_cons_self)).trans e
end
section
variable {prog : Program} {w : World} {A : Around} {E : Value → Shared → Prop} {s : Shared} {l : Addr} {items : Array Value} {xs : List Str} {Q : Value → Shared → Prop}
theorem text_at : ∀ {us : List Value} {ys : List Str}, StrsAre us ys → ∀ (i : Nat) (v : Value), us[i]? = some v → ∃ x t, ys[i]? = some x ∧ v = .str x t
  | _, _, .nil, _, _, h => nomatch h
  | _, _, .cons n t hr, 0, v, h => ⟨n, t, rfl, (Option.some.inj h).symm⟩
  | _, _, .cons n t hr, i + 1, v, h => text_at hr i v h
/-- what set(l) leaves -/
abbrev Left (prog : Program) (w : World) (s : Shared) (xs : List Str) (v : Value) (s' : Shared) : Prop := v = .none ∧ ∃ h' tk, s' = { s with heap := h', toks := tk } ∧ h'.SetOf (PySem.strKind prog w) s.heap.objs.size (told xs xs.length) xs.length ∧ ∀ b o, s.heap.get? b = some o → h'.get? b = some o
theorem fill (led : Bool) (hh : A.handled = none) (hl : s.heap.IsList l items) (hi : StrsAre items.toList xs) (nd : xs.Nodup) (small : xs.length ≤ 100) :
    wpAny (model prog w) A.in1 (Builtin.«set.__init__» ⟨[.ref s.heap.objs.size, .ref l], []⟩) (fun f s' => match f with
      | .done f => wants (Left prog w s xs) E (.ok f) s'
      | .again c => c.quiet = true ∧ codeAny (model prog w) A c (wants (Left prog w s xs) E) s') (fun e s' => wants (Left prog w s xs) E (.error e) s') { s with heap := s.heap.push (blank led) } := by
  have at0 : (s.heap.push (blank led)).get? s.heap.objs.size = some (blank led) := Heap.get?_push_size _ rfl
  obtain ⟨⟨c, d, dt, sl⟩, ho, hc, n, hd⟩ := hl
  simp only at hc hd
  subst hc hd
  have small_l : l < s.heap.objs.size := Heap.lt_size ho
  have at1 : (s.heap.push (blank led)).get? l = some { cls := .type "list", dict := d, data := .seq items n, slots := sl } := Heap.get?_push_of_some _ ho
  have lst : (s.heap.push (blank led)).IsList l items := ⟨_, at1, rfl, n, rfl⟩
  have f1 := PySem.F.sub_list_set
  have f2 := PySem.F.sub_list_frozenset
  have f3 : (Value.type "list" == Value.type "dict") = false := by decide
  unfold Builtin.«set.__init__» noKeywords Builtin.Frozenset.updateFrom
  generalize hP : pyIter = P
  wp_walk
  subst hP
  refine wpAny_pyIter_list lst (wpAny_bind (wpAny_runValue ?_))
  have ne1 : l ≠ (s.heap.push (blank led)).objs.size := by
    rw [Heap.size_push]
    exact Nat.ne_of_lt (Nat.lt_succ_of_lt small_l)
  have nS : s.heap.objs.size ∉ [(s.heap.push (blank led)).objs.size, l] := fun z => by
    rw [Heap.size_push] at z
    rcases List.mem_cons.mp z with z | z
    · exact absurd z (Nat.ne_of_lt (Nat.lt_succ_self _))
    · exact absurd (List.mem_singleton.mp z) (Nat.ne_of_gt small_l)
  have size : xs.length = items.size := by rw [← StrsAre.len_eq hi, Array.length_toList]
  have at2 := Heap.get?_push_of_some { cls := .type "list_iterator", data := .fields #[.ref l, .int 0 0] } at0
  refine run_loop ((Walks.list (by simp [hh]) _ l ne1 items).toS) s.heap.objs.size nS nd size (by rw [← size]; exact small) (fun i v hv => text_at hi i v (by rw [Array.getElem?_toList]; exact hv)) items.size 0 _ (Nat.zero_add _)
    ⟨⟨_, Heap.get?_push_size _ rfl, rfl, rfl⟩, lst.push _⟩ (PyProof.Rows.SetOf_congr ((PyProof.Rows.setObjOf_fresh (knd := PySem.strKind prog w) led).setOf at2 (by unfold scanBound; omega)) (fun _ => rfl) rfl) fun s' hm hS => ?_
  obtain ⟨h', g', d', tk', os'⟩ := s'
  obtain rfl : g' = s.gens := hm.gens
  obtain rfl : d' = s.drawn := hm.drawn
  obtain rfl : os' = s.os := hm.os
  show wpAny _ _ (pure _) _ _ _
  refine wpAny_pure ?_
  show wpAny _ _ (ret Value.none) _ _ _
  refine wpAny_pure ⟨rfl, h', tk', rfl, by rw [size]; exact hS, fun b o e => ?_⟩
  have lt := Heap.lt_size e
  refine hm.heap b o (fun z => ?_) (Heap.get?_push_of_some _ (Heap.get?_push_of_some _ e))
  rcases List.mem_cons.mp z with z | z
  · exact absurd z (Nat.ne_of_lt lt)
  · have z2 := List.mem_singleton.mp z
    rw [Heap.size_push] at z2
    exact absurd z2 (Nat.ne_of_lt (Nat.lt_succ_of_lt lt))
theorem call_set_texts (hh : A.handled = none) (hl : s.heap.IsList l items) (hi : StrsAre items.toList xs) (nd : xs.Nodup) (small : xs.length ≤ 100)
    (h : ∀ h' tk, h'.SetOf (PySem.strKind prog w) s.heap.objs.size (told xs xs.length) xs.length → (∀ b o, s.heap.get? b = some o → h'.get? b = some o) → Q (.ref s.heap.objs.size) { s with heap := h', toks := tk }) :
    wpAny (model prog w) A (call (.type "set") [.ref l]) Q E s := by
  obtain ⟨c, tl, hmro⟩ := PySem.F.called_set.mro
  have q1 := PySem.F.called_set.made
  have q2 := PySem.F.called_set.sub
  have q3 := PySem.F.called_set.notType
  have q4 := PySem.F.called_set.canCreate
  have q5 := PySem.F.typeCall_set_1 (.ref l)
  refine wpAny_call (codeAny_of_tree ?_)
  show wpAny _ _ (callAny (.type "set") _) _ _ _
  refine wpAny_pure ⟨Code.quiet_builtin _ (by decide +kernel), codeAny_builtin PySem.F.entry_type_call ?_⟩
  rw [Around.under_plain (weight_type_call_type "set" [.ref l] []) rfl]
  repeat (any_goals (first | assumption | wp_step))
  refine codeAny_mono (code_set_new_1 (.ref l) (E := E) (Q₁ := fun u s1 => ∃ led : Bool, u = .ref s.heap.objs.size ∧ s1 = { s with heap := s.heap.push (blank led) }) fun led => ⟨led, rfl, rfl⟩) fun r s1 hr => ?_
  cases r with
  | error e => exact hr
  | ok fl =>
    cases fl with
    | ret u =>
      obtain ⟨led, rfl, rfl⟩ := hr
      have at0 : (s.heap.push (blank led)).get? s.heap.objs.size = some (blank led) := Heap.get?_push_size _ rfl
      have ty : Shared.TypeIs { s with heap := s.heap.push (blank led) } (.ref s.heap.objs.size) "set" := ⟨_, at0, rfl⟩
      have i1 := PySem.F.called_set.init.lookup
      have i2 := PySem.F.called_set.init.bind (.ref s.heap.objs.size)
      repeat (any_goals (first | assumption | wp_step))
      refine codeAny_mono (codeAny_call_builtin (R := wants (Left prog w s xs) E) PySem.F.called_set.init.plain PySem.F.entry_set_init (check_set_init_1 ty ?_)) fun r2 s2 h2 => ?_
      · exact fill (A := A.in1) led (by simp [hh]) hl hi nd small
      · cases r2 with
        | error e => exact h2
        | ok fl2 =>
          cases fl2 with
          | ret v =>
            obtain ⟨rfl, h', tk, rfl, hS, hk⟩ := h2
            repeat (any_goals (first | assumption | wp_step))
            exact h _ _ hS hk
          | _ => exact False.elim h2
    | _ => exact False.elim hr
end
open L2
/-- len(set(xs)), xs a list of different texts -/
def tLenS (K : PySem.W.Frag) (ta : TE) : TE := fun σ H Q => ta σ H fun x H1 => ∃ (l : Addr) (xs : List Str), x = .ref l ∧ SqL K H1 l (xs.map V.str) ∧ xs.Nodup ∧ xs.length ≤ 100 ∧ Q (.int (xs.length : Nat)) H1
theorem pe_lenS {X : Cx} {K : PySem.W.Frag} {a : Expr} {ta : TE} {p p2 q pos : Pos} (eK : X.K = K) (hg : Gl X "len") (hm : X.mg "len" = none) (hg2 : Gl X "set") (hm2 : X.mg "set" = none) (ha : PE X a ta) (hc : X.calm = true := by rfl)
    (na : starEach [a] X.env = (false, eval a X.env) :: starEach [] X.env := by rfl) : PE X (.Call (.Name "len" p) [.Call (.Name "set" p2) [a] [] q] [] pos) (tLenS K ta) := by
  subst eK
  refine ⟨fun pins s σ H Q I h => Call_ (ld_blt I hg hm boot_len (PyProof.Rows.callWith_builtin1 (PyProof.Rows.args_cons ?_ rfl) rfl rfl))⟩
  refine Call_ (ld_blt I hg2 hm2 boot_set (PyProof.Rows.callWith_type1 (PyProof.Rows.args_cons (thn (ha.run pins s σ H _ I h) fun v s1 ⟨x, H1, I1, r1, q1⟩ => PyProof.Rows.args_nil ?_) na) na rfl))
  obtain ⟨l, xs, rfl, hx, nd, small, q2⟩ := q1
  cases r1
  obtain ⟨its, rv, pl, _⟩ := I1.list hx
  refine call_set_texts (I1.ok.hd hc) pl.isList (by simpa using strsAre_of rv) nd small fun h' tk hS hk => PyProof.Rows.args_nil ?_
  obtain ⟨o, es, ep, t, ho, hex, hd, _, _, _, hf, hn⟩ := hS
  have I2 := I1.kept (t' := tk) hk
  exact call_len_set ho hex hd hf (by rw [hn]; omega) ⟨.int (xs.length : Nat), H1, I2.tok _, ⟨_, by rw [hn]⟩, q2⟩
def lenOf (K : PySem.W.Frag) (Q : VK) (x : V) (H1 : Hp) : Prop := ∃ (l : Addr) (xs : List Str), x = .ref l ∧ SqL K H1 l (xs.map V.str) ∧ xs.Nodup ∧ xs.length ≤ 100 ∧ Q (.int (xs.length : Nat)) H1
theorem lenS {K : PySem.W.Frag} {ta : TE} {σ : L2.St} {H : Hp} {Q : VK} (q : ta σ H fun x H1 => lenOf K Q x H1) : tLenS K ta σ H Q := q
end SetS
set_option Elab.async false
set_option linter.all false
set_option maxRecDepth 100000
set_option maxHeartbeats 400000
/-! Tup0: a tuple held against the empty one. -/
namespace Tup0
open PySem PySem.Spec PyProof.Rows L2
def rTup0 (K : PySem.W.Frag) : R2 := fun x y H Q => ∃ a b xs, x = .ref a ∧ y = .ref b ∧ SqT K H a xs ∧ SqT K H b [] ∧ Q (.bl xs.isEmpty) H
theorem op_tup0 {X : Cx} (hu : X.A.units < cLine) : OpR X (compareOp .Eq) (rTup0 X.K) := by
  intro pins s σ H x y v u Q I rx ry h
  obtain ⟨a, b, xs, rfl, rfl, ha, hb, q⟩ := h
  cases rx
  cases ry
  obtain ⟨its, r1, p1, _⟩ := I.tuple ha
  obtain ⟨jts, r2, p2, _⟩ := I.tuple hb
  cases r2
  refine SeqAt.eq_tupleAt (e := fun _ => true) p1 p2 hu ?_ ?_
  · intro j _ h2
    exact absurd h2 (Nat.not_lt_zero j)
  · refine ⟨.bl xs.isEmpty, H, I, ?_, q⟩
    show Value.bool _ = Value.bool _
    congr 1
    cases r1 with
    | nil => rfl
    | cons _ _ => simp
theorem at_ {K : PySem.W.Frag} {H : Hp} {Q : VK} {a b : Addr} {xs : List V} (ha : SqT K H a xs) (hb : SqT K H b []) (q : Q (.bl xs.isEmpty) H) : rTup0 K (.ref a) (.ref b) H Q := ⟨a, b, xs, rfl, rfl, ha, hb, q⟩
end Tup0
set_option Elab.async false
set_option linter.all false
set_option maxRecDepth 100000
set_option maxHeartbeats 400000
/-! Lst0: a list, of whatever items, held against the empty one. -/
namespace Lst0
open PySem PySem.Spec PyProof.Rows L2
def rLst0 (K : PySem.W.Frag) : R2 := fun x y H Q => ∃ a b xs, x = .ref a ∧ y = .ref b ∧ SqL K H a xs ∧ SqL K H b [] ∧ Q (.bl xs.isEmpty) H
theorem op_lst0 {X : Cx} (hu : X.A.units < cLine) : OpR X (compareOp .Eq) (rLst0 X.K) := by
  intro pins s σ H x y v u Q I rx ry h
  obtain ⟨a, b, xs, rfl, rfl, ha, hb, q⟩ := h
  cases rx
  cases ry
  obtain ⟨its, r1, ⟨o1, n1, ho1, hc1, _, hd1⟩, _⟩ := I.list ha
  obtain ⟨jts, r2, ⟨o2, n2, ho2, hc2, _, hd2⟩, _⟩ := I.list hb
  show wpAny (model X.prog X.w) X.A (richCompare .Eq _ _) (EP X pins σ Q) X.xe s
  cases r2
  cases r1 with
  | nil => exact PySem.SeqAt.RcAt.lists (e := fun _ => true) ⟨o1, ho1, hc1, _, hd1⟩ ⟨o2, ho2, hc2, _, hd2⟩ rfl hu (fun j _ h2 => absurd h2 (Nat.not_lt_zero j)) _ _ _ _ ⟨.bl true, H, I, rfl, q⟩
  | cons _ _ => exact PySem.SeqAt.RcAt.lists_lengths ⟨o1, ho1, hc1, _, hd1⟩ ⟨o2, ho2, hc2, _, hd2⟩ (by simp) hu _ _ _ _ ⟨.bl false, H, I, rfl, q⟩
theorem at_ {K : PySem.W.Frag} {H : Hp} {Q : VK} {a b : Addr} {xs : List V} (ha : SqL K H a xs) (hb : SqL K H b []) (q : Q (.bl xs.isEmpty) H) : rLst0 K (.ref a) (.ref b) H Q := ⟨a, b, xs, rfl, rfl, ha, hb, q⟩
end Lst0
set_option Elab.async false
set_option linter.all false
set_option maxRecDepth 100000
set_option maxHeartbeats 400000
/-! PgFld: a field as a target among others. -/
namespace PgFld
open PySem PySem.Spec PyProof.Rows L2
def gFld (K : PySem.W.Frag) (to : TE) (f : Str) : TG := fun v σ H Q => to σ H fun x H2 => ∃ a C dx fs, x = .ref a ∧ H2 a = some (.ins C dx fs) ∧ Cls K C ∧ NoAttr K C f ∧ fs.length < 1000 ∧ Q σ (upd H2 a (.ins C dx (putF f v fs)))
theorem pg_fld {X : Cx} {pos : Pos} {o : Expr} {f : Str} {to : TE} (ho : PE X o to)
    (ha : ∀ v, assign (.Attribute o f pos) X.env v = (do
      let ov ← holding [v] (eval o X.env)
      standAt pos.atName
      holding [v, ov] (setAttr ov f v)
      release [v, ov] []) := by intro _; rfl) : PG X (.Attribute o f pos) (gFld X.K to f) := by
  refine ⟨fun pins s σ H v u Q I r h => ?_⟩
  rw [ha]
  refine wpAny_bind (wpAny_holding (thn (ho.run pins s σ H _ I h) fun ov s1 ⟨x, H1, I1, r1, a, C, dx, fs, e1, ea, c, n, l, q1⟩ => ?_))
  subst e1
  obtain rfl : ov = Value.ref a := r1
  refine wpAny_bind (wpAny_standAt (wpAny_bind (wpAny_holding (setattr_ok I1 ea c n l r fun s3 I3 => ?_))))
  exact wpAny_release ⟨σ, _, I3, q1⟩
theorem pg_fldK {X : Cx} {K : PySem.W.Frag} {pos : Pos} {o : Expr} {f : Str} {to : TE} (eK : X.K = K) (ho : PE X o to)
    (ha : ∀ v, assign (.Attribute o f pos) X.env v = (do
      let ov ← holding [v] (eval o X.env)
      standAt pos.atName
      holding [v, ov] (setAttr ov f v)
      release [v, ov] []) := by intro _; rfl) : PG X (.Attribute o f pos) (gFld K to f) := eK ▸ pg_fld ho ha
end PgFld
section
open PySem PySem.Spec PyProof.Rows L2
example {X : Cx} {pos p2 : Pos} {i : Nat} {f : Str} {to : TE} (ho : PE X (.Name f p2) to) : PG X (.Attribute (.Name f p2) f pos) (PgFld.gFld X.K to f) := PgFld.pg_fld ho
end
set_option Elab.async false
set_option linter.all false
set_option maxRecDepth 100000
set_option maxHeartbeats 400000
/-! EqIns: == of two instances by an own __eq__, whatever it says. -/
namespace EqIns
open PySem PySem.Spec PyProof.Rows L2
/-- the own __eq__ answers k -/
def rEqI (C : Addr) (sp : Sp) (E : XK) : R2 := fun x y H Q => ∃ a b dx dy fs gs, x = .ref a ∧ y = .ref b ∧ H a = some (.ins C dx fs) ∧ H b = some (.ins C dy gs) ∧ sp [.ref a, .ref b] H (fun v H' => ∃ k, v = .bl k ∧ Q (.bl k) H') E
theorem op_eqI {X : Cx} {CX : CXT} {n : Nat} {C f : Addr} {fd : FuncData} {ps : List Str} {sp : Sp} {E : XK} (F : FnOk X.prog X.w X.K X.mg X.base CX n f fd ps sp) (hs : PySem.W.findIn X.K (.ref C) "__eq__" = some (some (.ref f))) (hf : PySem.W.isFn X.K (.ref f) = true)
    (hb : Binds X.K fd ps []) (hr : Room n X.A) (hx : Passes CX X E) : OpR X (compareOp .Eq) (rEqI C sp E) := by
  intro pins s σ H x y u v Q I rx ry h
  obtain ⟨a, b, dx, dy, fs, gs, rfl, rfl, ha, hb', hsp⟩ := h
  cases rx
  cases ry
  obtain ⟨mA, J, _⟩ := ins_get I.hok ha
  obtain ⟨mB, J', _⟩ := ins_get I.hok hb'
  obtain ⟨od, J, _⟩ := J.look
  obtain ⟨od', J', _⟩ := J'.look
  obtain ⟨m, hF⟩ := I.fr
  show wpAny (model X.prog X.w) X.A (richCompare .Eq _ _) (EP X pins σ Q) X.xe s
  refine PySem.W.cmp_K (op := .Eq) (tb := .ref C) hr.units0 hF I.ok.mod.kin J J'.type (by simp [PySem.W.notFirst]) hs hf ?_
  have r2 : Vals [V.ref a, V.ref b] [Value.ref a, Value.ref b] := .cons rfl (.cons rfl .nil)
  have hl := F.len _ _ _ _ hsp
  refine wpAny_call (codeAny_mono (F.run X.A X.stack s H ⟨[.ref a, .ref b], []⟩ [.ref a, .ref b] [.ref a, .ref b] _ E hr I.env0 (by
    have z := hb s [.ref a, .ref b] I.kIn (by simpa using hl)
    simpa using z) r2 hsp) fun r s' hq => ?_)
  cases r with
  | error e => exact hx pins σ H s e s' I hq
  | ok fl =>
    cases fl with
    | ret w =>
      obtain ⟨z, H', I', rz, k, rfl, q⟩ := I.after hq
      cases rz
      exact ⟨.bl k, H', I', rfl, q⟩
    | _ => exact False.elim hq
end EqIns
set_option Elab.async false
set_option linter.all false
set_option maxRecDepth 100000
set_option maxHeartbeats 400000
/-! NeIns: != of two instances of a class with an own __eq__ and no __ne__. -/
namespace NeIns
open PySem PySem.Spec PyProof.Rows
section
variable {M : Model} {prog : Program} {w : World} {A : Around} {E : Value → Shared → Prop} {s : Shared} {K : PySem.W.Frag} {x y C f : Addr} {ox oy : Obj} {od od' : Option Obj}
theorem bound_ne {args : List Value} {Q : Option Value → Shared → Prop} (X : K.In s.heap) (I : PySem.W.InstAt s.heap x ox C od) (hs : PySem.W.findIn K (.ref C) "__ne__" = some (some (.builtin "object.__ne__")))
    (h : wpAny M A (call (.builtin "object.__ne__") (.ref x :: args)) (fun v => Q (some v)) E s) : wpAny M A (callSpecialIfBound? (.ref x) "__ne__" args) Q E s := by
  simp only [callSpecialIfBound?, bindSpecialIfBound?]
  refine wpAny_holding (wpAny_bind (wpAny_bind (wpAny_bind (I.type.here ((PySem.W.looks_findIn X hs).here (wpAny_bind (wpAny_askSetting (wpAny_ite ?_))))))))
  have fin : wpAny M A (call (.builtin "object.__ne__") ([.ref x] ++ args) >>= fun v => pure (some v)) Q E s := wpAny_bind (wpAny_mono h (fun _ _ q => wpAny_pure q) fun _ _ e => e)
  split
  · exact wpAny_bind (wpAny_of_eq (F.cmp_object.ne.bind _) (wpAny_pure (by exact fin)))
  · exact wpAny_tryCatch (wpAny_bind (wpAny_of_eq (F.cmp_object.ne.bind _) (wpAny_pure (by exact fin))))
theorem body_ne {Q : Fin → Shared → Prop} (hu : A.units < cLine) (X : K.In s.heap) (I : PySem.W.InstAt s.heap x ox C od) (hs : PySem.W.findIn K (.ref C) "__eq__" = some (some (.ref f))) (hf : PySem.W.isFn K (.ref f) = true)
    (h : wpAny (model prog w) A (call (.ref f) [.ref x, .ref y]) (fun v s' => ∃ k, v = .bool k ∧ Q (.done (.ret (.bool (!k)))) s') E s) : wpAny (model prog w) A (Builtin.«object.__ne__» ⟨[.ref x, .ref y], []⟩) Q E s := by
  unfold Builtin.«object.__ne__»
  repeat (first
    | with_reducible refine wpAny_cRoomFor hu ?_
    | (refine wpAny_bind (m := callSpecialIfBound? (.ref x) (Str.ofString "__eq__") [.ref y]) (PySem.W.ifBound_K X I hs hf (wpAny_mono h (fun r s' hr => by
          obtain ⟨k, rfl, q⟩ := hr
          repeat (first | exact q | exact wpAny_pure q | exact wpAny_truthy_bool q | (refine wpAny_bind (m := truthy (.bool _)) (wpAny_truthy_bool ?_)) | wp_step)) fun _ _ e => e)))
    | wp_step)
theorem rc_ne {Q : Value → Shared → Prop} (hu : A.units + 1 < cLine) (X : K.In s.heap) (I : PySem.W.InstAt s.heap x ox C od) (J : PySem.W.InstAt s.heap y oy C od') (hm : PySem.W.mroIn K C (.type "object") = some true)
    (hn : PySem.W.findIn K (.ref C) "__ne__" = some (some (.builtin "object.__ne__"))) (hs : PySem.W.findIn K (.ref C) "__eq__" = some (some (.ref f))) (hf : PySem.W.isFn K (.ref f) = true)
    (h : wpAny (model prog w) A.in1 (call (.ref f) [.ref x, .ref y]) (fun v s' => ∃ k, v = .bool k ∧ Q (.bool (!k)) s') E s) : wpAny (model prog w) A (richCompare .NotEq (.ref x) (.ref y)) Q E s := by
  have one : wpAny (model prog w) A (tryCompare (.ref x) "__ne__" (.ref y)) (fun r s' => ∃ k, r = some (.bool k) ∧ Q (.bool k) s') E s := by
    unfold tryCompare
    refine wpAny_bind (bound_ne X I hn (wpAny_call (codeAny_call_builtin F.cmp_object.ne.plain F.cmpEntry_ne (PySem.W.check_slot F.cmpKind_ne F.cmpSplit_ne (I.type.andThen (PySem.W.looks_mroIn X hm)) (F.cmpArgs_ne _ _)
      (body_ne (by show A.units + 1 < cLine; exact hu) X I hs hf (wpAny_mono h (fun v s' hv => ?_) fun _ _ e => e))))))
    obtain ⟨k, rfl, q⟩ := hv
    first | exact ⟨k, rfl, wpAny_pure ⟨_, rfl, q⟩⟩ | exact ⟨k, rfl, wpAny_pure (wpAny_pure ⟨_, rfl, q⟩)⟩
  unfold richCompare
  simp only [oneThing_ref]
  refine wpAny_holding (wpAny_bind (wpAny_cRoomFor (Nat.lt_of_succ_lt hu) ?_))
  rw [cmpInfo_NotEq]
  dsimp only
  refine wpAny_bind (I.type.here (wpAny_bind (J.type.here ?_)))
  rw [show (Value.ref C != Value.ref C) = false from by simp]
  simp only [Bool.false_eq_true, if_false]
  refine wpAny_bind (wpAny_pure ?_)
  simp only [Bool.false_eq_true, if_false]
  refine wpAny_bind (wpAny_mono one (fun r s' hr => ?_) fun _ _ e => e)
  obtain ⟨k, rfl, q⟩ := hr
  first | exact wpAny_pure q | exact wpAny_pure (wpAny_pure q)
end
open L2
/-- the own __eq__ answers not k -/
def rNeI (C : Addr) (sp : Sp) (E : XK) : R2 := fun x y H Q => ∃ a b dx dy fs gs, x = .ref a ∧ y = .ref b ∧ H a = some (.ins C dx fs) ∧ H b = some (.ins C dy gs) ∧ sp [.ref a, .ref b] H (fun v H' => ∃ k, v = .bl k ∧ Q (.bl (!k)) H') E
theorem op_neI {X : Cx} {CX : CXT} {n : Nat} {C f : Addr} {fd : FuncData} {ps : List Str} {sp : Sp} {E : XK} (F : FnOk X.prog X.w X.K X.mg X.base CX n f fd ps sp) (hs : PySem.W.findIn X.K (.ref C) "__eq__" = some (some (.ref f))) (hf : PySem.W.isFn X.K (.ref f) = true)
    (hn : PySem.W.findIn X.K (.ref C) "__ne__" = some (some (.builtin "object.__ne__"))) (hm : PySem.W.mroIn X.K C (.type "object") = some true) (hb : Binds X.K fd ps []) (hr : Room (n + 1) X.A) (hx : Passes CX X E) : OpR X (compareOp .NotEq) (rNeI C sp E) := by
  intro pins s σ H x y u v Q I rx ry h
  obtain ⟨a, b, dx, dy, fs, gs, rfl, rfl, ha, hb', hsp⟩ := h
  cases rx
  cases ry
  obtain ⟨mA, J, _⟩ := ins_get I.hok ha
  obtain ⟨mB, J', _⟩ := ins_get I.hok hb'
  obtain ⟨od, J, _⟩ := J.look
  obtain ⟨od', J', _⟩ := J'.look
  show wpAny (model X.prog X.w) X.A (richCompare .NotEq _ _) (EP X pins σ Q) X.xe s
  refine rc_ne (Nat.lt_of_le_of_lt (Nat.add_le_add_left (show 1 ≤ 64 by decide) _) hr.units) I.kIn J J' hm hn hs hf ?_
  have r2 : Vals [V.ref a, V.ref b] [Value.ref a, Value.ref b] := .cons rfl (.cons rfl .nil)
  have hl := F.len _ _ _ _ hsp
  have e0 : Env0 X.prog X.w X.K X.mg X.base X.A.in1 X.stack s H := by
    have e := I.env0
    exact ⟨e.frames, e.mod, e.bs, e.bsz, e.funs, e.frf, e.hok, e.bare⟩
  refine wpAny_call (codeAny_mono (F.run X.A.in1 X.stack s H ⟨[.ref a, .ref b], []⟩ [.ref a, .ref b] [.ref a, .ref b] _ E hr.in1 e0 (by
    have z := hb s [.ref a, .ref b] I.kIn (by simpa using hl)
    simpa using z) r2 hsp) fun r s' hq => ?_)
  cases r with
  | error e => exact hx pins σ H s e s' I hq
  | ok fl =>
    cases fl with
    | ret w =>
      obtain ⟨z, H', I', rz, k, rfl, q⟩ := I.after hq
      cases rz
      exact ⟨k, rfl, .bl (!k), H', I', rfl, q⟩
    | _ => exact False.elim hq
end NeIns
set_option Elab.async false
set_option linter.all false
set_option maxRecDepth 100000
set_option maxHeartbeats 400000
/-! EqAny: == of an own instance, on the left, and data. -/
namespace EqAny
open PySem PySem.Spec PyProof.Rows L2 Gd
def tyD : PyData → String
  | .none => "NoneType"
  | .bool _ => "bool"
  | .int _ => "int"
  | .str _ => "str"
  | .list _ => "list"
  | .tuple _ => "tuple"
  | .dict _ => "dict"
theorem looks_ref {M : Model} {h : Heap} {a : Addr} {o : Obj} {t : Value} (e : h.get? a = some o) (c : o.cls = t) : PySem.W.Looks M h (typeOf (.ref a)) t := c ▸ (PySem.W.Looks.ld e).andThen .now
theorem looks_D {X : Cx} {pins : List (Addr × Obj)} {σ : L2.St} {H : Hp} {s : Shared} {M : Model} (I : Inv X pins σ H s) {v : V} {u : Value} {d : PyData} (r : RelV v u) (h : Dq X.K H v d) : PySem.W.Looks M s.heap (typeOf u) (.type (tyD d)) := by
  cases h with
  | non => cases r; exact PySem.W.Looks.of_pure rfl
  | bl b => cases r; exact PySem.W.Looks.of_pure rfl
  | int i => obtain ⟨t, rfl⟩ := r; exact PySem.W.Looks.of_pure rfl
  | str x => obtain ⟨t, rfl⟩ := r; exact PySem.W.Looks.of_pure rfl
  | lst hs _ =>
    cases r
    obtain ⟨its, rv, ⟨o, n, ho, hc, _, hd⟩, _⟩ := I.list hs
    exact looks_ref ho hc
  | tup hs _ =>
    cases r
    obtain ⟨its, rv, ⟨o, ho, hc, n, hd⟩, _⟩ := I.tuple hs
    exact looks_ref ho hc
  | dct hs _ =>
    cases r
    obtain ⟨_, hy, vs, rv, o, es, ep, ho, hx, _⟩ := I.hok _ _ hs
    exact looks_ref ho hx.1
theorem sub_D {K : PySem.W.Frag} {C : Addr} (d : PyData) : PySem.W.notFirst K C (.type (tyD d)) = true := by
  have go : ∀ (t : String) (l : List Value), fastBuiltinMro t = some l → l.contains (.ref C) = false → PySem.W.notFirst K C (.type t) = true := fun t l e n => by
    unfold PySem.W.notFirst
    have e2 : PySem.W.subIn K (.type t) (.ref C) = some false := by
      show (fastBuiltinMro t).map (·.contains (.ref C)) = some false
      rw [e]
      show some (l.contains (.ref C)) = some false
      rw [n]
    rw [e2]
    simp
  cases d with
  | none => exact go "NoneType" [.type "NoneType", .type "object"] (by decide +kernel) (by simp)
  | bool b => exact go "bool" [.type "bool", .type "int", .type "object"] (by decide +kernel) (by simp)
  | int i => exact go "int" [.type "int", .type "object"] (by decide +kernel) (by simp)
  | str x => exact go "str" [.type "str", .type "object"] (by decide +kernel) (by simp)
  | list x => exact go "list" [.type "list", .type "object"] (by decide +kernel) (by simp)
  | tuple x => exact go "tuple" [.type "tuple", .type "object"] (by decide +kernel) (by simp)
  | dict x => exact go "dict" [.type "dict", .type "object"] (by decide +kernel) (by simp)
/-- an own instance == data: what the own __eq__ says -/
def rEqA (K : PySem.W.Frag) (C : Addr) (sp : Sp) (E : XK) : R2 := fun x y H Q => ∃ a dx fs d, x = .ref a ∧ H a = some (.ins C dx fs) ∧ Dq K H y d ∧ sp [.ref a, y] H (fun v H' => ∃ k, v = .bl k ∧ Q (.bl k) H') E
theorem op_eqA {X : Cx} {CX : CXT} {n : Nat} {C f : Addr} {fd : FuncData} {ps : List Str} {sp : Sp} {E : XK} (F : FnOk X.prog X.w X.K X.mg X.base CX n f fd ps sp) (hs : PySem.W.findIn X.K (.ref C) "__eq__" = some (some (.ref f))) (hf : PySem.W.isFn X.K (.ref f) = true)
    (hb : Binds X.K fd ps []) (hr : Room n X.A) (hx : Passes CX X E) : OpR X (compareOp .Eq) (rEqA X.K C sp E) := by
  intro pins s σ H x y u v Q I rx ry h
  obtain ⟨a, dx, fs, d, rfl, ha, hd, hsp⟩ := h
  cases rx
  obtain ⟨mA, J, _⟩ := ins_get I.hok ha
  obtain ⟨od, J, _⟩ := J.look
  obtain ⟨m, hF⟩ := I.fr
  show wpAny (model X.prog X.w) X.A (richCompare .Eq _ _) (EP X pins σ Q) X.xe s
  refine PySem.W.cmp_K (op := .Eq) (tb := .type (tyD d)) hr.units0 hF I.ok.mod.kin J (looks_D I ry hd) (sub_D d) hs hf ?_
  have r2 : Vals [V.ref a, y] [Value.ref a, v] := .cons rfl (.cons ry .nil)
  have hl := F.len _ _ _ _ hsp
  refine wpAny_call (codeAny_mono (F.run X.A X.stack s H ⟨[.ref a, v], []⟩ [.ref a, v] [.ref a, y] _ E hr I.env0 (by
    have z := hb s [.ref a, v] I.kIn (by simpa using hl)
    simpa using z) r2 hsp) fun r s' hq => ?_)
  cases r with
  | error e => exact hx pins σ H s e s' I hq
  | ok fl =>
    cases fl with
    | ret w =>
      obtain ⟨z, H', I', rz, k, rfl, q⟩ := I.after hq
      cases rz
      exact ⟨.bl k, H', I', rfl, q⟩
    | _ => exact False.elim hq
end EqAny
set_option Elab.async false
set_option linter.all false
set_option maxRecDepth 100000
set_option maxHeartbeats 400000
/-! NeAny: != of an own instance, on the left, and data. -/
namespace NeAny
open PySem PySem.Spec PyProof.Rows
section
variable {M : Model} {prog : Program} {w : World} {A : Around} {E : Value → Shared → Prop} {s : Shared} {K : PySem.W.Frag} {x C f : Addr} {b tb : Value} {ox : Obj} {od : Option Obj}
theorem body_ne {Q : Fin → Shared → Prop} (hu : A.units < cLine) (X : K.In s.heap) (I : PySem.W.InstAt s.heap x ox C od) (hs : PySem.W.findIn K (.ref C) "__eq__" = some (some (.ref f))) (hf : PySem.W.isFn K (.ref f) = true)
    (h : wpAny (model prog w) A (call (.ref f) [.ref x, b]) (fun v s' => ∃ k, v = .bool k ∧ Q (.done (.ret (.bool (!k)))) s') E s) : wpAny (model prog w) A (Builtin.«object.__ne__» ⟨[.ref x, b], []⟩) Q E s := by
  unfold Builtin.«object.__ne__»
  repeat (first
    | with_reducible refine wpAny_cRoomFor hu ?_
    | (refine wpAny_bind (m := callSpecialIfBound? (.ref x) (Str.ofString "__eq__") [b]) (PySem.W.ifBound_K X I hs hf (wpAny_mono h (fun r s' hr => by
          obtain ⟨k, rfl, q⟩ := hr
          repeat (first | exact q | exact wpAny_pure q | exact wpAny_truthy_bool q | (refine wpAny_bind (m := truthy (.bool _)) (wpAny_truthy_bool ?_)) | wp_step)) fun _ _ e => e)))
    | wp_step)
theorem rc_ne {Q : Value → Shared → Prop} (hu : A.units + 1 < cLine) (X : K.In s.heap) (I : PySem.W.InstAt s.heap x ox C od) (L : PySem.W.Looks (model prog w) s.heap (typeOf b) tb) (nf : PySem.W.notFirst K C tb = true) (args : argsOk "object.__ne__" ⟨[.ref x, b], []⟩)
    (hm : PySem.W.mroIn K C (.type "object") = some true) (hn : PySem.W.findIn K (.ref C) "__ne__" = some (some (.builtin "object.__ne__"))) (hs : PySem.W.findIn K (.ref C) "__eq__" = some (some (.ref f))) (hf : PySem.W.isFn K (.ref f) = true)
    (h : wpAny (model prog w) A.in1 (call (.ref f) [.ref x, b]) (fun v s' => ∃ k, v = .bool k ∧ Q (.bool (!k)) s') E s) : wpAny (model prog w) A (richCompare .NotEq (.ref x) b) Q E s := by
  have one : wpAny (model prog w) A (tryCompare (.ref x) "__ne__" b) (fun r s' => ∃ k, r = some (.bool k) ∧ Q (.bool k) s') E s := by
    unfold tryCompare
    refine wpAny_bind (NeIns.bound_ne X I hn (wpAny_call (codeAny_call_builtin F.cmp_object.ne.plain F.cmpEntry_ne (PySem.W.check_slot F.cmpKind_ne F.cmpSplit_ne (I.type.andThen (PySem.W.looks_mroIn X hm)) args
      (body_ne (by show A.units + 1 < cLine; exact hu) X I hs hf (wpAny_mono h (fun v s' hv => ?_) fun _ _ e => e))))))
    obtain ⟨k, rfl, q⟩ := hv
    first | exact ⟨k, rfl, wpAny_pure ⟨_, rfl, q⟩⟩ | exact ⟨k, rfl, wpAny_pure (wpAny_pure ⟨_, rfl, q⟩)⟩
  unfold richCompare
  simp only [oneThing_ref]
  refine wpAny_holding (wpAny_bind (wpAny_cRoomFor (Nat.lt_of_succ_lt hu) ?_))
  rw [cmpInfo_NotEq]
  dsimp only
  refine wpAny_bind (I.type.here (wpAny_bind (L.here ?_)))
  split
  · rename_i q
    have e : PySem.W.subIn K tb (.ref C) = some false := by
      rcases Bool.or_eq_true_iff.mp nf with e | e
      · rw [beq_iff_eq.mp e] at q
        simp at q
      · exact beq_iff_eq.mp e
    refine wpAny_bind ((PySem.W.looks_subIn X e).here ?_)
    simp only [Bool.false_eq_true, if_false]
    refine wpAny_bind (wpAny_mono one (fun r s' hr => ?_) fun _ _ e => e)
    obtain ⟨k, rfl, q⟩ := hr
    first | exact wpAny_pure q | exact wpAny_pure (wpAny_pure q)
  · refine wpAny_bind (wpAny_pure ?_)
    simp only [Bool.false_eq_true, if_false]
    refine wpAny_bind (wpAny_mono one (fun r s' hr => ?_) fun _ _ e => e)
    obtain ⟨k, rfl, q⟩ := hr
    first | exact wpAny_pure q | exact wpAny_pure (wpAny_pure q)
end
open L2 Gd
def rNeA (K : PySem.W.Frag) (C : Addr) (sp : Sp) (E : XK) : R2 := fun x y H Q => ∃ a dx fs d, x = .ref a ∧ H a = some (.ins C dx fs) ∧ Dq K H y d ∧ sp [.ref a, y] H (fun v H' => ∃ k, v = .bl k ∧ Q (.bl (!k)) H') E
theorem op_neA {X : Cx} {CX : CXT} {n : Nat} {C f : Addr} {fd : FuncData} {ps : List Str} {sp : Sp} {E : XK} (F : FnOk X.prog X.w X.K X.mg X.base CX n f fd ps sp) (hs : PySem.W.findIn X.K (.ref C) "__eq__" = some (some (.ref f))) (hf : PySem.W.isFn X.K (.ref f) = true)
    (hn : PySem.W.findIn X.K (.ref C) "__ne__" = some (some (.builtin "object.__ne__"))) (hm : PySem.W.mroIn X.K C (.type "object") = some true) (hb : Binds X.K fd ps []) (hr : Room (n + 1) X.A) (hx : Passes CX X E) : OpR X (compareOp .NotEq) (rNeA X.K C sp E) := by
  intro pins s σ H x y u v Q I rx ry h
  obtain ⟨a, dx, fs, d, rfl, ha, hd, hsp⟩ := h
  cases rx
  obtain ⟨mA, J, _⟩ := ins_get I.hok ha
  obtain ⟨od, J, _⟩ := J.look
  show wpAny (model X.prog X.w) X.A (richCompare .NotEq _ _) (EP X pins σ Q) X.xe s
  refine rc_ne (Nat.lt_of_le_of_lt (Nat.add_le_add_left (show 1 ≤ 64 by decide) _) hr.units) I.kIn J (EqAny.looks_D I ry hd) (EqAny.sub_D d) (PySem.F.cmpArgs_ne _ _) hm hn hs hf ?_
  have r2 : Vals [V.ref a, y] [Value.ref a, v] := .cons rfl (.cons ry .nil)
  have hl := F.len _ _ _ _ hsp
  have e0 : Env0 X.prog X.w X.K X.mg X.base X.A.in1 X.stack s H := by
    have e := I.env0
    exact ⟨e.frames, e.mod, e.bs, e.bsz, e.funs, e.frf, e.hok, e.bare⟩
  refine wpAny_call (codeAny_mono (F.run X.A.in1 X.stack s H ⟨[.ref a, v], []⟩ [.ref a, v] [.ref a, y] _ E hr.in1 e0 (by
    have z := hb s [.ref a, v] I.kIn (by simpa using hl)
    simpa using z) r2 hsp) fun r s' hq => ?_)
  cases r with
  | error e => exact hx pins σ H s e s' I hq
  | ok fl =>
    cases fl with
    | ret w =>
      obtain ⟨z, H', I', rz, k, rfl, q⟩ := I.after hq
      cases rz
      exact ⟨k, rfl, .bl (!k), H', I', rfl, q⟩
    | _ => exact False.elim hq
end NeAny
set_option Elab.async false
set_option linter.all false
set_option maxRecDepth 100000
set_option maxHeartbeats 400000
/-! Decl: the built-in kinds' own __eq__ declines an own instance. -/
namespace Decl
open PySem PySem.Spec PyProof.Rows
section
variable {M : Model} {A : Around} {E : Value → Shared → Prop} {s : Shared} {x C : Addr} {ox : Obj} {od : Option Obj} {Q : Fin → Shared → Prop}
/-- an instance of C is no b -/
theorem inst_no {b : String} {R : Bool → Shared → Prop} (I : PySem.W.InstAt s.heap x ox C od) (K : PySem.W.Frag) (X : K.In s.heap) (hm : PySem.W.mroIn K C (.type b) = some false) (h : R false s) : wpAny M A (isInstance (.ref x) (.type b)) R E s := by
  unfold isInstance
  exact wpAny_bind (I.type.here ((PySem.W.looks_mroIn X hm).here h))
theorem list_no {l : Addr} {items : Array Value} {K : PySem.W.Frag} (X : K.In s.heap) (I : PySem.W.InstAt s.heap x ox C od) (hm : PySem.W.mroIn K C (.type "list") = some false) (hl : s.heap.IsList l items) (h : Q (.done (.ret .notImplemented)) s) :
    wpAny M A (Builtin.«list.__eq__» ⟨[.ref l, .ref x], []⟩) Q E s := by
  obtain ⟨⟨cls, dd, data, sl⟩, ho, hc, n, hd⟩ := id hl
  simp only at hc hd
  subst hc hd
  obtain ⟨hp, g, d, tk, os⟩ := s
  have f := @inst_no M A E ⟨hp, g, d, tk, os⟩ x C ox od "list"
  wp_walk using wpAny_loadPart' ho, f I K X hm
  exact h
theorem none_no (h : Q (.done (.ret .notImplemented)) s) : wpAny M A (Builtin.«NoneType.__eq__» ⟨[.none, .ref x], []⟩) Q E s := by
  obtain ⟨hp, g, d, tk, os⟩ := s
  wp_walk
  exact h
theorem tuple_no {l : Addr} {items : Array Value} {K : PySem.W.Frag} (X : K.In s.heap) (I : PySem.W.InstAt s.heap x ox C od) (hm : PySem.W.mroIn K C (.type "tuple") = some false) {o : Obj} (ho : s.heap.get? l = some o) (hc : o.cls = .type "tuple") {n : Nat} (hd : o.data = .seq items n) (h : Q (.done (.ret .notImplemented)) s) :
    wpAny M A (Builtin.«tuple.__eq__» ⟨[.ref l, .ref x], []⟩) Q E s := by
  obtain ⟨cls, dd, data, sl⟩ := o
  simp only at hc hd
  subst hc hd
  obtain ⟨hp, g, d, tk, os⟩ := s
  have f := @inst_no M A E ⟨hp, g, d, tk, os⟩ x C ox od "tuple"
  wp_walk using wpAny_loadPart' ho, f I K X hm
  exact h
theorem dict_no {l : Addr} {es : Array DictEntry} {K : PySem.W.Frag} (X : K.In s.heap) (I : PySem.W.InstAt s.heap x ox C od) (hm : PySem.W.mroIn K C (.type "dict") = some false) {o : Obj} (ho : s.heap.get? l = some o) (hc : o.cls = .type "dict") {n : Nat} (hd : o.data = .dict es n) (h : Q (.done (.ret .notImplemented)) s) :
    wpAny M A (Builtin.«dict.__eq__» ⟨[.ref l, .ref x], []⟩) Q E s := by
  obtain ⟨cls, dd, data, sl⟩ := o
  simp only at hc hd
  subst hc hd
  obtain ⟨hp, g, d, tk, os⟩ := s
  have f := @inst_no M A E ⟨hp, g, d, tk, os⟩ x C ox od "dict"
  wp_walk using wpAny_loadPart' ho, f I K X hm
  exact h
theorem int_no {i : Int} {u : Tok} {dx : Option Addr} {sl : Array (Option Value)} (ho : s.heap.get? x = some ⟨.ref C, dx, .plain, sl⟩) (h : Q (.done (.ret .notImplemented)) s) : wpAny M A (Builtin.«int.__eq__» ⟨[.int i u, .ref x], []⟩) Q E s := by
  obtain ⟨hp, g, d, tk, os⟩ := s
  wp_walk using wpAny_loadPart' ho, wpAny_load ho
  exact h
theorem bool_no {i : Bool} {dx : Option Addr} {sl : Array (Option Value)} (ho : s.heap.get? x = some ⟨.ref C, dx, .plain, sl⟩) (h : Q (.done (.ret .notImplemented)) s) : wpAny M A (Builtin.«int.__eq__» ⟨[.bool i, .ref x], []⟩) Q E s := by
  obtain ⟨hp, g, d, tk, os⟩ := s
  wp_walk using wpAny_loadPart' ho, wpAny_load ho
  exact h
theorem str_no {i : Str} {u : Tok} {dx : Option Addr} {sl : Array (Option Value)} (ho : s.heap.get? x = some ⟨.ref C, dx, .plain, sl⟩) (h : Q (.done (.ret .notImplemented)) s) : wpAny M A (Builtin.«str.__eq__» ⟨[.str i u, .ref x], []⟩) Q E s := by
  obtain ⟨hp, g, d, tk, os⟩ := s
  wp_walk using wpAny_loadPart' ho, wpAny_load ho
  exact h
end
end Decl
set_option Elab.async false
set_option linter.all false
set_option maxRecDepth 100000
set_option maxHeartbeats 400000
/-! RevAny: data == an own instance, on the right: the own __eq__ is asked behind the built-in one. -/
namespace RevAny
open PySem PySem.Spec PyProof.Rows
section
variable {prog : Program} {w : World} {A : Around} {E : Value → Shared → Prop} {s : Shared} {K : PySem.W.Frag} {x C f : Addr} {y : Value} {ox : Obj} {od : Option Obj} {T id : String}
theorem rc_rev {Q : Value → Shared → Prop} (hu : A.units < cLine) (X : K.In s.heap) (I : PySem.W.InstAt s.heap x ox C od) (hT : s.TypeIs y T) (hm : PySem.W.mroIn K C (.type T) = some false) (sl : Slot T (cmpInfo .Eq).2.1 id)
    (hc : ∀ Q' : Value → Shared → Prop, Q' .notImplemented s → wpAny (model prog w) A (call (.builtin id) [y, .ref x]) Q' E s)
    (hs : PySem.W.findIn K (.ref C) "__eq__" = some (some (.ref f))) (hf : PySem.W.isFn K (.ref f) = true)
    (h : wpAny (model prog w) A (call (.ref f) [.ref x, y]) (PySem.W.CmpBack Q) E s) : wpAny (model prog w) A (richCompare .Eq y (.ref x)) Q E s := by
  have one : wpAny (model prog w) A (tryCompare (.ref x) "__eq__" y) (fun r s' => ∃ v, r = some v ∧ Q v s') E s := by
    unfold tryCompare
    refine wpAny_bind (PySem.W.ifBound_K X I hs hf (wpAny_mono h (fun v s' hv => ?_) fun _ _ e => e))
    cases v <;> first | exact hv.elim | exact wpAny_pure ⟨_, rfl, hv⟩
  rw [cmpInfo_Eq] at sl
  simp only [richCompare, cmpInfo_Eq, hT.oneThing_none]
  try with_reducible refine wpAny_holding ?_
  refine wpAny_bind (wpAny_cRoomFor hu ?_)
  refine wpAny_bind (wpAny_typeOf hT (wpAny_bind (I.type.here ?_)))
  split
  · refine wpAny_bind ((PySem.W.looks_mroIn X hm).here ?_)
    simp only [Bool.false_eq_true, if_false, Bool.not_false, if_true]
    refine wpAny_bind (m := tryCompare y _ (.ref x)) (wpAny_tryCompare_declines hT sl (hc _ ⟨rfl, ?_⟩))
    refine wpAny_bind (m := tryCompare (.ref x) _ y) (wpAny_mono one (fun r s' z => ?_) fun _ _ e => e)
    obtain ⟨v, rfl, hq⟩ := z
    exact wpAny_pure hq
  · rename_i q
    exact absurd (by simp) q
end
open L2 Gd EqAny
/-- what answers the built-in one, in a state -/
theorem decl_call {prog : Program} {w : World} {A : Around} {E : Value → Shared → Prop} {s : Shared} {x : Addr} {y : Value} {T : String} {id : String} {B : Builtin} {Q : Value → Shared → Prop} (hT : s.TypeIs y T) {n : Str} (sl : Slot T n id) (en : entryFor table id = some B) (ar : argsOk id ⟨[y, .ref x], []⟩)
    (h : ∀ Q' : Fin → Shared → Prop, Q' (.done (.ret .notImplemented)) s → wpAny (model prog w) A.in1 (B ⟨[y, .ref x], []⟩) Q' E s) (hq : Q .notImplemented s) : wpAny (model prog w) A (call (.builtin id) [y, .ref x]) Q E s :=
  wpAny_call (codeAny_call_builtin sl.plain en (sl.check _ _ _ _ _ _ _ _ hT ar (h _ hq)))
def rRev (K : PySem.W.Frag) (C : Addr) (sp : Sp) (E : XK) : R2 := fun y x H Q => ∃ a dx fs d, x = .ref a ∧ H a = some (.ins C dx fs) ∧ Dq K H y d ∧ sp [.ref a, y] H (fun v H' => ∃ k, v = .bl k ∧ Q (.bl k) H') E
theorem op_rev {X : Cx} {CX : CXT} {n : Nat} {C f : Addr} {fd : FuncData} {ps : List Str} {sp : Sp} {E : XK} (F : FnOk X.prog X.w X.K X.mg X.base CX n f fd ps sp) (hs : PySem.W.findIn X.K (.ref C) "__eq__" = some (some (.ref f))) (hf : PySem.W.isFn X.K (.ref f) = true)
    (hm : ∀ d : PyData, PySem.W.mroIn X.K C (.type (tyD d)) = some false) (hb : Binds X.K fd ps []) (hr : Room n X.A) (hx : Passes CX X E) : OpR X (compareOp .Eq) (rRev X.K C sp E) := by
  intro pins s σ H y x v u Q I ry rx h
  obtain ⟨a, dx, fs, d, rfl, ha, hd, hsp⟩ := h
  cases rx
  obtain ⟨mA, J, _⟩ := ins_get I.hok ha
  obtain ⟨od, J, _⟩ := J.look
  have X' := I.kIn
  have hJ := J.at_
  have r2 : Vals [V.ref a, y] [Value.ref a, v] := .cons rfl (.cons ry .nil)
  have hl := F.len _ _ _ _ hsp
  have fin : wpAny (model X.prog X.w) X.A (call (.ref f) [.ref a, v]) (PySem.W.CmpBack (EP X pins σ Q)) X.xe s := by
    refine wpAny_call (codeAny_mono (F.run X.A X.stack s H ⟨[.ref a, v], []⟩ [.ref a, v] [.ref a, y] _ E hr I.env0 (by
      have z := hb s [.ref a, v] X' (by simpa using hl)
      simpa using z) r2 hsp) fun r s' hq => ?_)
    cases r with
    | error e => exact hx pins σ H s e s' I hq
    | ok fl =>
      cases fl with
      | ret w =>
        obtain ⟨z, H', I', rz, k, rfl, q⟩ := I.after hq
        cases rz
        exact ⟨.bl k, H', I', rfl, q⟩
      | _ => exact False.elim hq
  show wpAny (model X.prog X.w) X.A (richCompare .Eq _ _) (EP X pins σ Q) X.xe s
  have hm' := hm d
  cases hd with
  | non =>
    cases ry
    exact rc_rev hr.units0 X' J rfl hm' PySem.F.slot_NoneType_eq (fun Q' q => decl_call rfl PySem.F.slot_NoneType_eq PySem.F.entry_NoneType_eq (PySem.F.args_NoneType_eq_2 _ _) (fun _ h => Decl.none_no h) q) hs hf fin
  | bl b =>
    cases ry
    exact rc_rev hr.units0 X' J rfl hm' PySem.F.slot_bool_eq (fun Q' q => decl_call rfl PySem.F.slot_bool_eq PySem.F.entry_int_eq (PySem.F.args_int_eq_2 _ _) (fun _ h => Decl.bool_no hJ h) q) hs hf fin
  | int i =>
    obtain ⟨t, rfl⟩ := ry
    exact rc_rev hr.units0 X' J (typeIs_int s _ _) hm' PySem.F.slot_int_eq (fun Q' q => decl_call (typeIs_int s _ _) PySem.F.slot_int_eq PySem.F.entry_int_eq (PySem.F.args_int_eq_2 _ _) (fun _ h => Decl.int_no hJ h) q) hs hf fin
  | str z =>
    obtain ⟨t, rfl⟩ := ry
    exact rc_rev hr.units0 X' J (typeIs_str s _ _) hm' PySem.F.slot_str_eq (fun Q' q => decl_call (typeIs_str s _ _) PySem.F.slot_str_eq PySem.F.entry_str_eq (PySem.F.args_str_eq_2 _ _) (fun _ h => Decl.str_no hJ h) q) hs hf fin
  | lst hq _ =>
    cases ry
    obtain ⟨its, rv, ⟨o, n, ho, hc, hz, hd⟩, _⟩ := I.list hq
    exact rc_rev hr.units0 X' J ⟨_, ho, hc⟩ hm' PySem.F.slot_list_eq (fun Q' q => decl_call ⟨_, ho, hc⟩ PySem.F.slot_list_eq PySem.F.entry_list_eq (PySem.F.args_list_eq_2 _ _) (fun _ h => Decl.list_no X' J hm' ⟨o, ho, hc, _, hd⟩ h) q) hs hf fin
  | tup hq _ =>
    cases ry
    obtain ⟨its, rv, ⟨o, ho, hc, n, hd⟩, _⟩ := I.tuple hq
    exact rc_rev hr.units0 X' J ⟨_, ho, hc⟩ hm' PySem.F.slot_tuple_eq (fun Q' q => decl_call ⟨_, ho, hc⟩ PySem.F.slot_tuple_eq PySem.F.entry_tuple_eq (PySem.F.args_tuple_eq_2 _ _) (fun _ h => Decl.tuple_no X' J hm' ho hc hd h) q) hs hf fin
  | dct hq _ =>
    cases ry
    obtain ⟨_, hy, vs, rv, o, es, ep, ho, hx2, hq5⟩ := I.hok _ _ hq
    obtain ⟨hc, hd9⟩ := hx2
    have hd := hq5.1
    exact rc_rev hr.units0 X' J ⟨_, ho, hc⟩ hm' PySem.F.slot_dict_eq (fun Q' q => decl_call ⟨_, ho, hc⟩ PySem.F.slot_dict_eq PySem.F.entry_dict_eq (PySem.F.args_dict_eq_2 _ _) (fun _ h => Decl.dict_no X' J hm' ho hc hd h) q) hs hf fin
end RevAny
set_option Elab.async false
set_option linter.all false
set_option maxRecDepth 100000
set_option maxHeartbeats 400000
/-! EqTwo: == of instances of two classes, by the left one's own __eq__. -/
namespace EqTwo
open PySem PySem.Spec PyProof.Rows L2
/-- the own __eq__ answers k; on the right an instance of another class -/
def rEqJ (C C2 : Addr) (sp : Sp) (E : XK) : R2 := fun x y H Q => ∃ a b dx dy fs gs, x = .ref a ∧ y = .ref b ∧ H a = some (.ins C dx fs) ∧ H b = some (.ins C2 dy gs) ∧ sp [.ref a, .ref b] H (fun v H' => ∃ k, v = .bl k ∧ Q (.bl k) H') E
theorem op_eqJ {X : Cx} {CX : CXT} {n : Nat} {C C2 f : Addr} {fd : FuncData} {ps : List Str} {sp : Sp} {E : XK} (F : FnOk X.prog X.w X.K X.mg X.base CX n f fd ps sp) (hs : PySem.W.findIn X.K (.ref C) "__eq__" = some (some (.ref f))) (hf : PySem.W.isFn X.K (.ref f) = true) (nf : PySem.W.notFirst X.K C (.ref C2) = true)
    (hb : Binds X.K fd ps []) (hr : Room n X.A) (hx : Passes CX X E) : OpR X (compareOp .Eq) (rEqJ C C2 sp E) := by
  intro pins s σ H x y u v Q I rx ry h
  obtain ⟨a, b, dx, dy, fs, gs, rfl, rfl, ha, hb', hsp⟩ := h
  cases rx
  cases ry
  obtain ⟨mA, J, _⟩ := ins_get I.hok ha
  obtain ⟨mB, J', _⟩ := ins_get I.hok hb'
  obtain ⟨od, J, _⟩ := J.look
  obtain ⟨od', J', _⟩ := J'.look
  obtain ⟨m, hF⟩ := I.fr
  show wpAny (model X.prog X.w) X.A (richCompare .Eq _ _) (EP X pins σ Q) X.xe s
  refine PySem.W.cmp_K (op := .Eq) (tb := .ref C2) hr.units0 hF I.ok.mod.kin J J'.type nf hs hf ?_
  have r2 : Vals [V.ref a, V.ref b] [Value.ref a, Value.ref b] := .cons rfl (.cons rfl .nil)
  have hl := F.len _ _ _ _ hsp
  refine wpAny_call (codeAny_mono (F.run X.A X.stack s H ⟨[.ref a, .ref b], []⟩ [.ref a, .ref b] [.ref a, .ref b] _ E hr I.env0 (by
    have z := hb s [.ref a, .ref b] I.kIn (by simpa using hl)
    simpa using z) r2 hsp) fun r s' hq => ?_)
  cases r with
  | error e => exact hx pins σ H s e s' I hq
  | ok fl =>
    cases fl with
    | ret w =>
      obtain ⟨z, H', I', rz, k, rfl, q⟩ := I.after hq
      cases rz
      exact ⟨.bl k, H', I', rfl, q⟩
    | _ => exact False.elim hq
end EqTwo
set_option Elab.async false
set_option linter.all false
set_option maxRecDepth 100000
set_option maxHeartbeats 400000
/-! NeTwo: != of instances of two classes, by the left one's own __eq__. -/
namespace NeTwo
open PySem PySem.Spec PyProof.Rows L2
def rNeJ (C C2 : Addr) (sp : Sp) (E : XK) : R2 := fun x y H Q => ∃ a b dx dy fs gs, x = .ref a ∧ y = .ref b ∧ H a = some (.ins C dx fs) ∧ H b = some (.ins C2 dy gs) ∧ sp [.ref a, .ref b] H (fun v H' => ∃ k, v = .bl k ∧ Q (.bl (!k)) H') E
theorem op_neJ {X : Cx} {CX : CXT} {n : Nat} {C C2 f : Addr} {fd : FuncData} {ps : List Str} {sp : Sp} {E : XK} (F : FnOk X.prog X.w X.K X.mg X.base CX n f fd ps sp) (hs : PySem.W.findIn X.K (.ref C) "__eq__" = some (some (.ref f))) (hf : PySem.W.isFn X.K (.ref f) = true) (nf : PySem.W.notFirst X.K C (.ref C2) = true)
    (hn : PySem.W.findIn X.K (.ref C) "__ne__" = some (some (.builtin "object.__ne__"))) (hm : PySem.W.mroIn X.K C (.type "object") = some true) (hb : Binds X.K fd ps []) (hr : Room (n + 1) X.A) (hx : Passes CX X E) : OpR X (compareOp .NotEq) (rNeJ C C2 sp E) := by
  intro pins s σ H x y u v Q I rx ry h
  obtain ⟨a, b, dx, dy, fs, gs, rfl, rfl, ha, hb', hsp⟩ := h
  cases rx
  cases ry
  obtain ⟨mA, J, _⟩ := ins_get I.hok ha
  obtain ⟨mB, J', _⟩ := ins_get I.hok hb'
  obtain ⟨od, J, _⟩ := J.look
  obtain ⟨od', J', _⟩ := J'.look
  show wpAny (model X.prog X.w) X.A (richCompare .NotEq _ _) (EP X pins σ Q) X.xe s
  refine NeAny.rc_ne (Nat.lt_of_le_of_lt (Nat.add_le_add_left (show 1 ≤ 64 by decide) _) hr.units) I.kIn J J'.type nf (PySem.F.cmpArgs_ne _ _) hm hn hs hf ?_
  have r2 : Vals [V.ref a, V.ref b] [Value.ref a, Value.ref b] := .cons rfl (.cons rfl .nil)
  have hl := F.len _ _ _ _ hsp
  have e0 : Env0 X.prog X.w X.K X.mg X.base X.A.in1 X.stack s H := by
    have e := I.env0
    exact ⟨e.frames, e.mod, e.bs, e.bsz, e.funs, e.frf, e.hok, e.bare⟩
  refine wpAny_call (codeAny_mono (F.run X.A.in1 X.stack s H ⟨[.ref a, .ref b], []⟩ [.ref a, .ref b] [.ref a, .ref b] _ E hr.in1 e0 (by
    have z := hb s [.ref a, .ref b] I.kIn (by simpa using hl)
    simpa using z) r2 hsp) fun r s' hq => ?_)
  cases r with
  | error e => exact hx pins σ H s e s' I hq
  | ok fl =>
    cases fl with
    | ret w =>
      obtain ⟨z, H', I', rz, k, rfl, q⟩ := I.after hq
      cases rz
      exact ⟨k, rfl, .bl (!k), H', I', rfl, q⟩
    | _ => exact False.elim hq
end NeTwo
set_option Elab.async false
set_option linter.all false
set_option maxRecDepth 100000
set_option maxHeartbeats 400000
/-! CatS: two lists, of whatever kind, put together. -/
namespace CatS
open PySem PySem.Spec PyProof.Rows L2
def rCatS (K : PySem.W.Frag) : R2 := fun x y H Q => ∃ l b xs zs, x = .ref l ∧ y = .ref b ∧ SqL K H l xs ∧ SqL K H b zs ∧ xs.length + zs.length ≤ sizeLine ∧ ∀ p, H p = none → Q (.ref p) (upd H p (.lst (xs ++ zs)))
theorem op_catS {X : Cx} : OpR X (binaryOp .Add) (rCatS X.K) := by
  intro pins s σ H x y v u Q I rx ry h
  obtain ⟨l, b, xs, zs, rfl, rfl, hH, hB, hz, q⟩ := h
  cases rx
  cases ry
  obtain ⟨its, r, ⟨o1, n1, ho1, hc1, hk1, hd1⟩, _⟩ := I.list hH
  obtain ⟨jts, r2, ⟨o2, n2, ho2, hc2, hk2, hd2⟩, _⟩ := I.list hB
  obtain ⟨cls, dd, data, sl⟩ := o1
  obtain ⟨cls2, dd2, data2, sl2⟩ := o2
  simp only at hc1 hk1 hd1 hc2 hk2 hd2
  subst hc1 hk1 hd1 hc2 hk2 hd2
  have e1 := r.length
  have e2 := r2.length
  refine PySem.concat_meets ⟨_, ho1, rfl⟩ ⟨_, ho2, rfl⟩ PySem.noFill_list_add PySem.seq_list_add PySem.F.slot_list_add PySem.F.entry_list_add (PySem.F.args_list_add_2 _ _) (list_addW l b its.toArray jts.toArray n1 n2 none none sl sl2 (by simp; omega)) ⟨ho1, ho2, ?_⟩
  have ea : its.toArray ++ jts.toArray = (its ++ jts).toArray := by simp
  rw [ea]
  exact ⟨.ref _, _, I.lnew (t' := s.toks) (r.append r2) (by rw [List.length_append]; omega), rfl, q _ I.fresh⟩
theorem at_ {K : PySem.W.Frag} {H : Hp} {Q : VK} {l b : Addr} {xs zs : List V} (ha : SqL K H l xs) (hb : SqL K H b zs) (q : ∀ p, H p = none → Q (.ref p) (upd H p (.lst (xs ++ zs)))) (h : xs.length + zs.length ≤ 1000 := by exact Nat.le_of_ble_eq_true rfl) : rCatS K (.ref l) (.ref b) H Q :=
  ⟨l, b, xs, zs, rfl, rfl, ha, hb, Nat.le_trans h (by decide), q⟩
end CatS
set_option Elab.async false
set_option linter.all false
set_option maxRecDepth 100000
set_option maxHeartbeats 400000
/-! PgLst: a list unpacked; a list, of whatever items, held unlike the empty one. -/
namespace PgLst
open PySem PySem.Spec PyProof.Rows L2
theorem pg_lstK {X : Cx} {K : PySem.W.Frag} {pos : Pos} {es : List Expr} {k : Nat} {t : TGs} {n : Nat} (eK : X.K = K) (hc : X.calm = true) (h : PGs X es t)
    (hn : (assignEach es X.env).length = n := by rfl) (hst : (assignEach es X.env).findIdx? (·.1) = none := by rfl) : PG X (.Tuple es k pos) (gLst K n t) := eK ▸ pg_lst hc h hn hst
def isLg (K : PySem.W.Frag) (n : Nat) (k : List V → Hp → Prop) (v : V) (H : Hp) : Prop := ∃ a xs, v = .ref a ∧ SqL K H a xs ∧ xs.length = n ∧ k xs H
theorem tgl {K : PySem.W.Frag} {n : Nat} {t : TGs} {v : V} {σ : L2.St} {H : Hp} {R : L2.St → Hp → Prop} (q : isLg K n (fun xs H2 => t xs σ H2 R) v H) : gLst K n t v σ H R := q
theorem lgAt {K : PySem.W.Frag} {n : Nat} {k : List V → Hp → Prop} {a : Addr} {xs : List V} {H : Hp} (h : SqL K H a xs) (l : xs.length = n) (q : k xs H) : isLg K n k (.ref a) H := ⟨a, xs, rfl, h, l, q⟩
def rLst0n (K : PySem.W.Frag) : R2 := fun x y H Q => ∃ a b xs, x = .ref a ∧ y = .ref b ∧ SqL K H a xs ∧ SqL K H b [] ∧ Q (.bl (!xs.isEmpty)) H
theorem op_lst0n {X : Cx} (hu : X.A.units < cLine) : OpR X (compareOp .NotEq) (rLst0n X.K) := by
  intro pins s σ H x y v u Q I rx ry h
  obtain ⟨a, b, xs, rfl, rfl, ha, hb, q⟩ := h
  cases rx
  cases ry
  obtain ⟨its, r1, ⟨o1, n1, ho1, hc1, _, hd1⟩, _⟩ := I.list ha
  obtain ⟨jts, r2, ⟨o2, n2, ho2, hc2, _, hd2⟩, _⟩ := I.list hb
  show wpAny (model X.prog X.w) X.A (richCompare .NotEq _ _) (EP X pins σ Q) X.xe s
  cases r2
  cases r1 with
  | nil => exact PySem.SeqAt.RcNeAt.lists (e := fun _ => true) ⟨o1, ho1, hc1, _, hd1⟩ ⟨o2, ho2, hc2, _, hd2⟩ rfl hu (fun j _ h2 => absurd h2 (Nat.not_lt_zero j)) _ _ _ _ ⟨.bl false, H, I, rfl, q⟩
  | cons _ _ => exact PySem.SeqAt.RcNeAt.lists_lengths ⟨o1, ho1, hc1, _, hd1⟩ ⟨o2, ho2, hc2, _, hd2⟩ (by simp) hu _ _ _ _ ⟨.bl true, H, I, rfl, q⟩
theorem at_ {K : PySem.W.Frag} {H : Hp} {Q : VK} {a b : Addr} {xs : List V} (ha : SqL K H a xs) (hb : SqL K H b []) (q : Q (.bl (!xs.isEmpty)) H) : rLst0n K (.ref a) (.ref b) H Q := ⟨a, b, xs, rfl, rfl, ha, hb, q⟩
end PgLst
set_option Elab.async false
set_option linter.all false
set_option maxRecDepth 100000
set_option maxHeartbeats 2000000
/-! HotL: a list walked to its end while an exception is handled; a method called there; an own bare error raised. -/
namespace HotL
open PySem PySem.Spec PyProof.Rows L2 HotX L2H
section
variable {prog : Program} {w : World} {A : Around} {E : Value → Shared → Prop} {s : Shared}
theorem pyNext_list_end_hot {it l x1 : Addr} {i : Nat} {items} {Q : Option Value → Shared → Prop} (hot : HotAt A x1 s.heap)
    (hit : s.heap.IsListIter it l i) (hl : s.heap.IsList l items) (hx : items[i]? = none)
    (hQ : ∀ h', Heap.ExtBut it s.heap h' → Q none { s with heap := h' }) : wpAny (model prog w) A (pyNext (.ref it)) Q E s := by
  obtain ⟨hh, o1, vs1, h1, d1, c1⟩ := hot
  obtain ⟨o, ho, hc, hd⟩ := id hit
  obtain ⟨ol, hol, _, nl, hdl⟩ := hl
  have ne : x1 ≠ it := fun z => by
    rw [z, ho] at h1
    cases h1
    rw [hd] at d1
    cases d1
    simp at c1
  unfold pyNext
  refine wpAny_bind (wpAny_attempt (wpAny_callSpecial?_slot (name := Str.ofString "__next__") hit.typeIs slot_listiter_next
    (wpAny_call_entry slot_listiter_next hit.typeIs entry_listiter_next ?_ (args_listiter_next _))))
  show wpAny _ _ (field (.ref it) 0 >>= _) _ _ s
  refine wpAny_bind (wpAny_field ho hd (x := .ref l) rfl ?_)
  show wpAny _ _ (if (Value.ref l == Value.none) = true then _ else _) _ _ s
  rw [if_neg (show ¬ ((Value.ref l == Value.none) = true) from Bool.false_ne_true)]
  show wpAny _ _ (field (.ref it) 1 >>= _) _ _ s
  refine wpAny_bind (wpAny_field ho hd (x := .int i 0) rfl ?_)
  show wpAny _ _ (seqItems? (.ref l) >>= _) _ _ s
  refine wpAny_bind (wpAny_seqItems hol hdl ?_)
  simp only [Int.toNat_natCast, hx]
  refine wpAny_bind (wpAny_rule (wpAny_bind (wpAny_setField ho hd (by simp) ?_)))
  show wpAny _ _ (newExc (.type "StopIteration") [] >>= _) _ _ _
  refine wpAny_bind ?_
  simp only [newExc, newTuple]
  refine wpAny_bind (wpAny_newObj_type ?_ (by size_fits))
  refine wpAny_bind (m := firstArgMember _ _) (wpAny_of_eq (a := Value.none) (by first | rfl | (simp only [firstArgMember]; rfl)) ?_)
  refine wpAny_newObj_type ?_ (by size_fits)
  have up : ∀ (f : Obj → Obj) b o, b ≠ it → s.heap.get? b = some o → (s.heap.update it f).get? b = some o := fun f b o n e => by
    rw [Heap.get?_update_other _ _ (Ne.symm n)]
    exact e
  refine raiseNew_hot ⟨hh, o1, vs1, Heap.get?_push_of_some _ (Heap.get?_push_of_some _ (up _ _ _ ne h1)), d1, c1⟩ (Nat.ne_of_lt (Heap.lt_size (Heap.get?_push_of_some _ (up _ _ _ ne h1)))) (Heap.get?_push_size _ rfl) rfl (by first | (simp; done) | (simp; omega) | (simp only [Array.size_append]; simp; omega)) ?_
  refine wpAny_bind (wpAny_isInstance (T := "StopIteration") (b := true) ⟨_, Heap.get?_update_self _ (Heap.get?_push_size _ rfl) rfl, rfl⟩ isSubtype_stop ?_)
  refine wpAny_pure (hQ _ fun b o nb e => ?_)
  rw [Heap.get?_update_other _ _ (Nat.ne_of_gt (Heap.lt_size (Heap.get?_push_of_some _ (up _ b o nb e))))]
  exact Heap.get?_push_of_some _ (Heap.get?_push_of_some _ (up _ b o nb e))
end
theorem turn_listH {P : Program} {w : World} {K : PySem.W.Frag} {tg : Expr} (a it : Addr) : TurnH P w K tg (Itl K a) [it] it (fun i h => h.IsListIter it a i) where
  mem := by simp
  obj := fun i h st b hb => by
    have e : b = it := by simpa using hb
    subst e
    obtain ⟨o, e, c, d⟩ := st
    exact ⟨o, e, fun v z => by rw [d] at z; cases z⟩
  keep := fun i h h' st k => st.at fun o e => k it (by simp) o e
  item := by
    intro X hP hw hK hc i pins s σ H E I hf st hg
    subst hP hw hK
    obtain ⟨xs, x, hq, hx⟩ := hg
    obtain ⟨its, rv, p, hz⟩ := I.list hq
    obtain ⟨u, hu, ru⟩ := rv.get hx
    obtain ⟨f0, f1, f2, f3, f4, f5⟩ := hf it (by simp)
    refine wpAny_pyNext_list_item st p.isList (x := u) (by simpa using hu) fun h' st' sb => ?_
    have I1 : Inv X pins σ H { s with heap := h' } := I.turned (t' := s.toks) (fun b o hb e => (sb.2 b hb).trans e) f0 f1 f3 f4 f5
    obtain ⟨o, e, c, d⟩ := id st'
    exact ⟨u, rfl, go_of (s := { s with heap := h' }) e c d (by decide) ⟨x, H, I1, ru, ⟨rfl, fun ys hy => by rw [I.list_inj hy hq]; exact hx⟩, st', fun b hb => (hf b hb).1⟩⟩
  done := by
    intro X hP hw hK hc i pins s σ H E I hf st hg
    subst hP hw hK
    obtain ⟨xs, hq, hx⟩ := hg
    obtain ⟨its, rv, p, hz⟩ := I.list hq
    obtain ⟨f0, f1, f2, f3, f4, f5⟩ := hf it (by simp)
    have hl := rv.length
    obtain ⟨x1, hot⟩ := hc.at I
    exact pyNext_list_end_hot hot st p.isList (by simp; omega) fun h' eb => ⟨rfl, I.turned (t' := s.toks) (fun b o hb e => eb b o hb e) f0 f1 f3 f4 f5⟩
  self := fun _ _ _ _ _ st h => wpAny_pyIter_listiter st h
section
variable {X : Cx} {tg : Expr}
theorem pi_listH {K : PySem.W.Frag} {l : Expr} {tl : TE} (eK : X.K = K) (hl : PE X l tl) : PIH X tg l (iList K tl) := by
  subst eK
  refine ⟨fun pins s σ H R I h => ?_⟩
  refine thn (hl.run pins s σ H _ I h) fun v s1 ⟨x, H1, I1, r1, q1⟩ => ?_
  obtain ⟨a, e, ⟨xs, hq⟩, q⟩ := q1
  subst e
  cases r1
  obtain ⟨its, rv, p, hz⟩ := I1.list hq
  refine wpAny_pyIter_list p.isList ?_
  refine ⟨s1.heap.objs.size, [s1.heap.objs.size], _, _, H1, rfl, I1.kept (t' := s1.toks) fun b o e => Heap.get?_push_of_some _ e, turn_listH a _, ⟨_, Heap.get?_push_size _ rfl, rfl, rfl⟩, fun b hb => ?_, q⟩
  have e : b = s1.heap.objs.size := by simpa using hb
  subst e
  exact I1.fpOk (Nat.le_refl _) (I1.hok.fresh (Nat.le_refl _))
end
section
variable {X : Cx} {CX : CXT} {k : Nat} {f C : Addr} {fd : FuncData} {ps : List Str} {sp : Sp} {E : L2.St → XK} {x m : Str} {q pos apos : Pos} {e o : Expr} {es : List Expr} {ta : TE} {t : TA}
/-- o.m() -/
def tMeth0 (C : Addr) (m : Str) (sp : Sp) (E : L2.St → XK) (ta : TE) : TE := fun σ H Q => ta σ H fun x H1 => ∃ a dx fs, x = .ref a ∧ H1 a = some (.ins C dx fs) ∧ fs.lookup m = none ∧ sp [x] H1 Q (E σ)
theorem pe_methH0 {pl : Sem Bool} (he : PE X o ta) (c : Cls X.K C) (hm : Meth X.K C m f) (F : FnH X.prog X.w X.K X.mg X.base CX k f fd ps sp) (hr : RoomH k X.A) (hc : HotC X) (hb : Binds X.K fd ps []) (hx : ∀ σ, PassesAt CX X σ (E σ))
    (ht : eval (.Call (.Attribute o m apos) [] [] pos) X.env = (do
      let ov ← eval o X.env
      standAt apos.atName
      let (f, first) ← holding [ov] (getMethod ov m pl)
      callWith pos f first (backTo pos (starEach [] X.env)) (backToKw pos (keywordEach [] X.env))) := by rfl) :
    PE X (.Call (.Attribute o m apos) [] [] pos) (tMeth0 C m sp E ta) := by
  refine ⟨fun pins s σ H Q I h => ?_⟩
  refine PySem.W.methodCall_KW (pl := pl) (thn (he.run pins s σ H _ I h) fun u s1 ⟨x, H1, I1, rx, a, dx, fs, ex, ea, l, q⟩ => ?_) ht
  subst ex
  obtain rfl : u = Value.ref a := rx
  refine getmeth_ok I1 ea c hm l ?_
  exact PySem.W.callWith_K0 (first := [.ref a]) I1.kIn hm.kp (run_fnH (us := [.ref a]) (vs := [.ref a]) F hr hc hb (hx σ) I1 (.cons rfl .nil) q)
/-- o.m() within a try: what it raises is wished for at the slots as they stand -/
theorem pe_methS0 {pl : Sem Bool} (he : PE X o ta) (c : Cls X.K C) (hm : Meth X.K C m f) (F : FnOk X.prog X.w X.K X.mg X.base CX k f fd ps sp) (hr : Room k X.A) (hb : Binds X.K fd ps []) (hx : ∀ σ, PassesAt CX X σ (E σ))
    (ht : eval (.Call (.Attribute o m apos) [] [] pos) X.env = (do
      let ov ← eval o X.env
      standAt apos.atName
      let (f, first) ← holding [ov] (getMethod ov m pl)
      callWith pos f first (backTo pos (starEach [] X.env)) (backToKw pos (keywordEach [] X.env))) := by rfl) :
    PE X (.Call (.Attribute o m apos) [] [] pos) (tMeth0 C m sp E ta) := by
  refine ⟨fun pins s σ H Q I h => ?_⟩
  refine PySem.W.methodCall_KW (pl := pl) (thn (he.run pins s σ H _ I h) fun u s1 ⟨x, H1, I1, rx, a, dx, fs, ex, ea, l, q⟩ => ?_) ht
  subst ex
  obtain rfl : u = Value.ref a := rx
  refine getmeth_ok I1 ea c hm l ?_
  exact PySem.W.callWith_K0 (first := [.ref a]) I1.kIn hm.kp (run_fnS (us := [.ref a]) (vs := [.ref a]) F hr hb (hx σ) I1 (.cons rfl .nil) q)
/-- raise X(), X without an __init__ of its own -/
theorem pmk_bare {p : Pos} (T : OexC X.K C) (hi : PySem.W.findIn X.K (.ref C) "__init__" = some (some (.builtin "ValueError.__init__"))) (gC : X.mg x = some (.ref C)) (r : Raises X (.ref C)) (hg : Gl X x) (hdb : (x == ("__debug__" : Str)) = false := by decide) :
    L2N.PMk X (.Call (.Name x p) [] [] pos) (fun _ H Q => Q (.ref C) none H) := by
  intro pins s σ H Q I h
  refine wpAny_Call_Name_kw (ld_glob I hg gC ?_ hdb)
  refine PySem.W.callWith_K0 I.kIn T.kC ?_
  obtain ⟨nm, q, N, bs, bm, sn, sub, ab, col, dd, k0, k1, k2, k3, k5, hC, hbm⟩ := T.cls
  obtain ⟨hp, g, dr, tk, os⟩ := s
  refine PySem.W.call_B F.excBase_ValueError (fun Y => PySem.HandSPX.refsVE_contains Y bm hbm) (I.kIn _ _ hC) (PySem.W.looks_findIn I.kIn hi) (by rw [sizeLine_eq]; exact (by decide : 0 ≤ 16777216)) fun h' keep he _ => ?_
  have new : hp.get? (hp.objs.size + 1) = none := by
    cases e : hp.get? (hp.objs.size + 1) with
    | none => rfl
    | some o =>
      have l : hp.objs.size + 1 < hp.objs.size := Heap.lt_size e
      exact absurd l (by omega)
  exact ⟨_, _, _, ⟨hp, g, dr, tk, os⟩, H, .ref C, none, rfl, I, keep, new, he, ⟨rfl, rfl, fun vs e => by cases e; rfl⟩, rfl, rfl, I.hok.fresh (Nat.le_succ _), rfl, I.bare, r, h⟩
theorem takesN0 : L2N.Takes X (fun _ _ _ _ => False) := fun _ _ x => by
  obtain ⟨_, _, _, _, _, _, _, _, _, _, _, _, _, _, _, _, z⟩ := x
  exact z.elim
/-- what is never reached may stand anywhere -/
theorem pg_never {tg : Expr} : PG X tg (fun _ _ _ _ => False) := ⟨fun _ _ _ _ _ _ _ _ _ h => h.elim⟩
end
end HotL
set_option Elab.async false
set_option linter.all false
set_option maxRecDepth 100000
set_option maxHeartbeats 400000
/-! HdB: tests of the head: an error class without __init__, isinstance of own instances. -/
namespace HdB
open PySem PySem.Spec PyProof.Rows L2
abbrev Fr := PySem.W.Frag
def oexB (K : Fr) (C : Addr) : Bool := (match K.lookup C with
  | some ⟨.type "type", _, .cls cd, sl⟩ => (match cd.mro, sl.toList with
    | .ref C' :: bm, [_, _, _, _, some (.builtin n), _] => C' == C && n == "ValueError.__new__" && !cd.hasDel && cd.hasDict && PySem.HandSPX.refsVE bm
    | _, _ => false)
  | _ => false) && (He.eqO (PySem.W.findIn K (.ref C) "__setattr__") (some (some (.builtin "object.__setattr__"))) && (decide (PySem.W.subIn K (.ref C) (.type "BaseException") = some true) && (decide (PySem.W.typeIn K (.ref C) = some (.type "type")) && PySem.W.keepIn K (.ref C))))
theorem oexB_ok {K : Fr} {C : Addr} (h : oexB K C = true) : OexC K C := by
  obtain ⟨h1, h⟩ := He.ba h
  obtain ⟨h2, h⟩ := He.ba h
  obtain ⟨h3, h⟩ := He.ba h
  obtain ⟨h4, h5⟩ := He.ba h
  refine ⟨?_, He.eqO_ok h2, of_decide_eq_true h3, of_decide_eq_true h4, h5⟩
  split at h1
  · rename_i dd cd sl ho
    split at h1
    · rename_i C' bm k0 k1 k2 k3 n k5 hm hs
      simp only [Bool.and_eq_true, beq_iff_eq, Bool.not_eq_true'] at h1
      obtain ⟨⟨⟨⟨rfl, rfl⟩, hdel⟩, hdi⟩, ht⟩ := h1
      obtain ⟨nm, bs, mro, ns, qn, hd, sn, sub, ab, col, del⟩ := cd
      dsimp only at hm hdel hdi
      subst hm hdel hdi
      have hsl : sl = #[k0, k1, k2, k3, some (.builtin "ValueError.__new__"), k5] := by
        obtain ⟨l⟩ := sl
        simp only at hs
        rw [hs]
      subst hsl
      exact ⟨nm, qn, ns, bs, bm, sn, sub, ab, col, dd, k0, k1, k2, k3, k5, ho, ht⟩
    · cases h1
  · cases h1
/-- isinstance, == of own instances -/
def isiB (K : Fr) (C : Addr) : Bool := He.eqO (PySem.W.findIn K (.ref C) "__class__") (some (some (.builtin "object.__class__"))) && (He.eqO (PySem.W.specialIn K (.builtin "object.__class__") "__get__") (some (some (.builtin "getset_descriptor.__get__"))) &&
  (decide (PySem.W.takesIn K (.builtin "object.__class__") = some true) && (decide (PySem.W.mroIn K C (.type "object") = some true) && He.eqO (PySem.W.findIn K (.ref C) "__ne__") (some (some (.builtin "object.__ne__"))))))
theorem isiB_ok {K : Fr} {C : Addr} (h : isiB K C = true) : PySem.W.findIn K (.ref C) "__class__" = some (some (.builtin "object.__class__")) ∧ PySem.W.specialIn K (.builtin "object.__class__") "__get__" = some (some (.builtin "getset_descriptor.__get__")) ∧
    PySem.W.takesIn K (.builtin "object.__class__") = some true ∧ PySem.W.mroIn K C (.type "object") = some true ∧ PySem.W.findIn K (.ref C) "__ne__" = some (some (.builtin "object.__ne__")) := by
  obtain ⟨h1, h⟩ := He.ba h
  obtain ⟨h2, h⟩ := He.ba h
  obtain ⟨h3, h⟩ := He.ba h
  obtain ⟨h4, h5⟩ := He.ba h
  exact ⟨He.eqO_ok h1, He.eqO_ok h2, of_decide_eq_true h3, of_decide_eq_true h4, He.eqO_ok h5⟩
def tys : List String := ["NoneType", "bool", "int", "str", "list", "tuple", "dict"]
end HdB
set_option Elab.async false
set_option linter.all false
set_option maxRecDepth 100000
set_option maxHeartbeats 4000000
/-! the draws of rights and owners -/
namespace Bs
open PySem PySem.Spec PyProof.Rows L2 Gd Er
def top (i : Nat) : Stmt := PySem.Challenge.pw_callersrights_k66_whole_copies_of_live_p.main.body.getD i (.Pass ⟨0, 0, 0, 0⟩)
abbrev FnP (K : PySem.W.Frag) (x : Str) (st : Stmt) (f : Addr) (fd : FuncData) : Prop := FunD K x x (defArgs st) (defBody st) (defScope st) [] [] f fd
local macro_rules | `(tactic| walk_at "rdc") => `(tactic| (first
  | assumption | exact Or.inl ⟨by omega, by omega⟩ | exact Or.inr ⟨by omega, by omega⟩ | exact Or.inl ⟨by decide, by decide⟩ | exact Or.inr ⟨by decide, by decide⟩
  | (show (0 : Int) < _; omega) | (show (0 : Int) < _; decide) | decide | omega | exact ⟨by decide, by decide, by decide⟩ | exact ⟨by decide, by decide +kernel⟩ | decide +kernel))
local macro_rules | `(tactic| walk_at "rdh") => `(tactic| (first | assumption | exact upd_same))
local macro_rules | `(tactic| walk_at "rd1") => `(tactic| (first
  | (with_reducible refine Rd.var rfl ?_) | (with_reducible refine Rd.con ?_) | (with_reducible refine Rd.op ?_) | (with_reducible refine Rd.un ?_) | (with_reducible refine Rd.i0 ?_) | (with_reducible refine Rd.iu ?_)
  | (with_reducible refine Rd.nil ?_) | (with_reducible refine Rd.cons ?_) | (with_reducible refine Rd.cb ?_) | (with_reducible refine Rd.asg ?_) | (with_reducible refine Rd.name ?_) | (with_reducible refine Rd.sub ?_) | (with_reducible refine Rd.rev ?_) | (with_reducible refine Rd.drop ?_) | (with_reducible refine Rd.bm ?_) | (with_reducible refine Rd.par ?_) | (with_reducible refine Rd.p2 ?_) | (with_reducible refine Rd.sl ?_) | (with_reducible refine Rd.noPart ?_) | (with_reducible refine Rd.part ?_) | (with_reducible refine Rd.int_ ?_) | (with_reducible refine Rd.seq ?_)
  | (with_reducible refine Rd.ret ?_) | (with_reducible refine Rd.retN ?_) | (with_reducible refine Rd.nxt ?_) | (with_reducible refine Rd.tst ?_) | (with_reducible refine Rd.tb_ ?_) | (with_reducible refine Rd.tnot ?_)
  | (with_reducible refine Rd.tor ?_) | (with_reducible refine Rd.tand ?_) | (with_reducible refine Rd.ifs ?_) | (with_reducible refine Rd.ife ?_) | (with_reducible refine Rd.lst ?_) | (with_reducible refine Rd.tup ?_)
  | (with_reducible refine Rd.int1 ?_) | (with_reducible refine Rd.bl ?_) | (with_reducible refine Rd.call ?_)
  | (with_reducible refine Rd.mx ?_) | (with_reducible refine Rd.bits ?_) | (with_reducible refine Rd.forR ?_) | (with_reducible refine Rd.forL ?_) | (with_reducible refine Rd.lcR ?_) | (with_reducible refine Rd.lcL ?_) | (with_reducible refine Rd.lcT ?_) | (with_reducible refine Rd.chain ?_) | (with_reducible refine Rd.notv ?_) | (with_reducible refine Rd.forS ?_) | (with_reducible refine Rd.lcS ?_) | (with_reducible refine Rd.str_ ?_) | (with_reducible refine Rd.forE ?_) | (with_reducible refine Rd.lcI ?_) | (with_reducible refine Rd.tgt ?_) | (with_reducible refine Rd.gcons ?_) | (with_reducible refine Rd.gnil ?_) | (with_reducible refine Rd.fld ?_) | (with_reducible refine Rd.sfld ?_) | (with_reducible refine Rd.meth ?_) | (with_reducible refine Rd.forT ?_)
  | ((with_reducible refine' Rd.ixLT ?rh ?ra ?_); (case rh => walk_at "rdh"); (case ra => rfl))
  | ((with_reducible refine' Rd.setL ?rh ?ra ?_); (case rh => walk_at "rdh"); (case ra => rfl))
  | ((with_reducible refine Rd.ic ?rc ?_); (case rc => walk_at "rdc"))))
local macro_rules | `(tactic| walk_at "rd") => `(tactic| (repeat (walk_at "rd1")))

/-! ### steps of readings: new lists, lists put together -/
section
variable {H : Hp} {Q : VK} {xs zs : List V} {l b : Addr}
theorem same_upd {p : Addr} {o : HO} (h : H p = none) : Same H (upd H p o) := fun b u e => (upd_ne (ne_of_none e h)).trans e
theorem same_none {H' : Hp} {p : Addr} (s : Same H H') (h : H' p = none) : H p = none := by
  cases q : H p with
  | none => rfl
  | some o => rw [s p o q] at h; cases h
theorem mkLs (q : ∀ p H', H p = none → Same H H' → H' p = some (.lst xs) → Q (.ref p) H') (h : xs.length ≤ 1000 := by exact Nat.le_of_ble_eq_true rfl) : Rd.newL Q xs H := Rd.mkL (fun p hp => q p _ hp (same_upd hp) upd_same) h
theorem mkTs (q : ∀ p H', H p = none → Same H H' → H' p = some (.tup xs) → Q (.ref p) H') (h : xs.length ≤ 1000 := by exact Nat.le_of_ble_eq_true rfl) : Rd.newT Q xs H := Rd.mkT (fun p hp => q p _ hp (same_upd hp) upd_same) h
theorem catL (hx : H l = some (.lst xs)) (hz : H b = some (.lst zs)) (q : ∀ p H', H p = none → Same H H' → H' p = some (.lst (xs ++ zs)) → Q (.ref p) H') (h : xs.length + zs.length ≤ 1000 := by exact Nat.le_of_ble_eq_true rfl) : rCat (.ref l) (.ref b) H Q :=
  ⟨l, b, xs, zs, rfl, rfl, hx, hz, Rd.szd h, fun p hp => q p _ hp (same_upd hp) upd_same⟩
theorem slNew {K : PySem.W.Frag} {a : Addr} {lo hi : Option Int} (h : SqL K H a xs) (q : ∀ p H', H p = none → Same H H' → H' p = some (.lst (cutV xs lo hi)) → Q (.ref p) H') : rSlL K (.ref a) lo hi H Q := Rd.slOf h fun p hp => q p _ hp (same_upd hp) upd_same
end


/-! ### the draws -/
section
variable {X : Cx}
theorem op_powX : OpR X (binaryOp .Pow) (rI (fun i j => 0 ≤ j ∧ (Builtin.Int.intBits i : Int) * j ≤ 2 ^ 27) fun i j => .int (i ^ j.toNat)) := opI fun _ _ _ _ _ _ _ hc q => pow_int hc.1 hc.2 q
end
structure TxtD (mg : Str → Option Value) : Prop where
  m_len : mg "len" = none
  m_int : mg "int" = none
  m_max : mg "max" = none
  m_range : mg "range" = none
/-- the numbers of a generator: the digits that are left, the seed, the count -/
def GenOk (a b c : Int) : Prop := 0 ≤ a ∧ 0 ≤ b ∧ b < 2147483647 ∧ 0 ≤ c ∧ c ≤ 2 ^ 40
abbrev s_law_cell : Stmt := top 31
abbrev N_law_cell : List Str := ["script", "index"]
theorem sc_law_cell : FnScope N_law_cell ["script", "index"] (defScope s_law_cell) := ⟨rfl, rfl, rfl, by decide +kernel, rfl, by decide +kernel, by decide +kernel⟩
abbrev s_law_hash : Stmt := top 29
abbrev N_law_hash : List Str := ["seed", "index", "mixed"]
theorem sc_law_hash : FnScope N_law_hash ["seed", "index"] (defScope s_law_hash) := ⟨rfl, rfl, rfl, by decide +kernel, rfl, by decide +kernel, by decide +kernel⟩
abbrev s_law_generator : Stmt := top 39
abbrev N_law_generator : List Str := ["script", "index", "seed"]
theorem sc_law_generator : FnScope N_law_generator ["script", "index"] (defScope s_law_generator) := ⟨rfl, rfl, rfl, by decide +kernel, rfl, by decide +kernel, by decide +kernel⟩
abbrev s_law_random : Stmt := top 35
abbrev N_law_random : List Str := ["generator", "bound", "drawn", "turn"]
theorem sc_law_random : FnScope N_law_random ["generator", "bound"] (defScope s_law_random) := ⟨rfl, rfl, rfl, by decide +kernel, rfl, by decide +kernel, by decide +kernel⟩
def sp_cell (K : PySem.W.Frag) : Sp := fun vs H Q _ => ∃ (a : Addr) (ns : List Int) (k : Nat), vs = [.ref a, .int (k : Int)] ∧ SqL K H a (ns.map V.int) ∧ ∀ n : Int, Q (.int n) H
def sp_hash : Sp := fun vs H Q _ => ∃ (a i : Int), vs = [.int a, .int i] ∧ 0 ≤ a ∧ a < 2147483647 ∧ 0 ≤ i ∧ i ≤ 2 ^ 41 ∧ ∀ n : Int, Q (.int n) H
def sp_generator (K : PySem.W.Frag) : Sp := fun vs H Q _ => ∃ (a : Addr) (ns : List Int) (k : Nat), vs = [.ref a, .int (k : Int)] ∧ SqL K H a (ns.map V.int) ∧ k ≤ 100 ∧
  ∀ (p : Addr) (x y : Int), H p = none → GenOk x y (1000 * (k : Int)) → Q (.ref p) (upd H p (.lst [.int x, .int y, .int (1000 * (k : Int))]))
/-- a draw: below the bound; the list is written -/
def sp_random : Sp := fun vs H Q _ => ∃ (g : Addr) (x y z m : Int), vs = [.ref g, .int m] ∧ H g = some (.lst [.int x, .int y, .int z]) ∧ GenOk x y z ∧ 0 < m ∧ m < 2 ^ 60 ∧
  ∀ (r x' z' : Int), 0 ≤ r → r < m → 0 ≤ x' → z ≤ z' → z' ≤ z + 4 → Q (.int r) (upd H g (.lst [.int x', .int y, .int z']))
section
variable {P : Program} {w : World} {K : PySem.W.Frag} {mg : Str → Option Value} {base : Heap} {f f_c f_h : Addr} {fd fd_c fd_h : FuncData}
theorem ok_cell (F : FnP K "_law_cell" s_law_cell f fd) (T : TxtD mg) : FnOk P w K mg base CX0 1 f fd ["script", "index"] (sp_cell K) := by
  refine F.ok sc_law_cell (fun vs H Q E h => ?_) (fun cdv A outer s H vs Q E hr h => ?_)
  · obtain ⟨a, ns, k, rfl, _⟩ := h
    rfl
  obtain ⟨a, ns, k, rfl, hS, hQ⟩ := h
  refine ⟨_, PSs.nox (pss_cons (ps_if (pt_cmpR op_lt (pv 1) (pe_callB (show CallR _ (.builtin "len") (Rd.rLn K) from Rd.c_len) (by rfl) T.m_len boot_len (pa_cons (pv 0) pa_nil)) (nomark _)) (pss_one (ps_ret (pe_ix (show IxR _ (rIxL K) from ix_list) (pv 0) (pv 1) (fun _ _ => rfl)))) pss_nil)
    (pss_one (ps_ret pe_int))), ?_⟩
  walk_at "rd"
  refine Rd.lnL hS ?_
  walk_at "rd"
  refine Rd.br (fun c => ?_) (fun _ => ?_)
  · have c' : (k : Int) < ((ns.map V.int).length : Int) := of_decide_eq_true c
    rw [List.length_map] at c'
    have ck : k < ns.length := by omega
    walk_at "rd"
    exact Rd.ixL hS (atI_nat (by rw [List.getElem?_map, List.getElem?_eq_getElem ck]; rfl)) (hQ _)
  · exact hQ 0
theorem ok_hash (F : FnP K "_law_hash" s_law_hash f fd) (T : TxtD mg) : FnOk P w K mg base CX0 1 f fd ["seed", "index"] sp_hash := by
  refine F.ok sc_law_hash (fun vs H Q E h => ?_) (fun cdv A outer s H vs Q E hr h => ?_)
  · obtain ⟨a, i, rfl, _⟩ := h
    rfl
  obtain ⟨a, i, rfl, h1, h2, h3, h4, hQ⟩ := h
  refine ⟨_, PSs.nox (pss_cons (ps_set (i := 2) sc_law_hash.nd rfl (by first | exact Or.inl rfl | exact Or.inr rfl) (pe_op op_mod (pe_callTy Rd.c_int (by rfl) T.m_int (by decide +kernel) (pa_cons (pe_op op_add (pe_op op_add (pe_op op_add (pe_op op_mul (pv 0) pe_int) (pe_op op_mul (pe_op op_mul pe_int (pv 1)) (pv 1))) (pv 1)) pe_int) pa_nil)) pe_int))
    (pss_cons (ps_set (i := 2) sc_law_hash.nd rfl (by first | exact Or.inl rfl | exact Or.inr rfl) (pe_op op_mod (pe_callTy Rd.c_int (by rfl) T.m_int (by decide +kernel) (pa_cons (pe_op op_add (pe_op op_mul (pv 2) (pv 2)) pe_int) pa_nil)) pe_int))
    (pss_one (ps_ret (pe_op op_mod (pe_callTy Rd.c_int (by rfl) T.m_int (by decide +kernel) (pa_cons (pe_op op_mul (pv 2) pe_int) pa_nil)) pe_int))))), ?_⟩
  walk_at "rd"
  exact hQ _
theorem ok_generator (F : FnP K "_law_generator" s_law_generator f fd) (F_c : FnP K "_law_cell" s_law_cell f_c fd_c) (g_law_cell : mg "_law_cell" = some (.ref f_c)) (T : TxtD mg) : FnOk P w K mg base CX0 2 f fd ["script", "index"] (sp_generator K) := by
  have G_law_cell : FnOk P w K mg base CX0 1 f_c fd_c ["script", "index"] (sp_cell K) := ok_cell F_c T
  have b_law_cell : Binds K fd_c ["script", "index"] [] := F_c.bindsN fun _ _ _ _ _ _ us hl => match us, hl with | [_, _], _ => rfl
  have k_law_cell := F_c.kp
  refine F.ok sc_law_generator (fun vs H Q E h => ?_) (fun cdv A outer s H vs Q E hr h => ?_)
  · obtain ⟨a, ns, k, rfl, _⟩ := h
    rfl
  obtain ⟨a, ns, k, rfl, hS, hk, hQ⟩ := h
  refine ⟨_, PSs.nox (pss_cons (ps_set (i := 2) sc_law_generator.nd rfl (by first | exact Or.inl rfl | exact Or.inr rfl) (pe_call G_law_cell (hr.mono (by decide)) rfl g_law_cell k_law_cell b_law_cell .nil pass0 (pa_cons (pv 0) (pa_cons (pv 1) pa_nil))))
    (pss_one (ps_ret (pe_lst (pa_cons (pe_op op_mod (pe_callTy Rd.c_int (by rfl) T.m_int (by decide +kernel) (pa_cons (pe_callB (Rd.c_max rfl) (by rfl) T.m_max (by decide +kernel) (pa_cons (pe_op op_sub (pv 2) (pe_op op_pow pe_int pe_int)) (pa_cons pe_int pa_nil))) pa_nil)) (pe_op op_powX (pe_op op_pow pe_int pe_int) pe_int)) (pa_cons (pe_op op_mod (pe_callTy Rd.c_int (by rfl) T.m_int (by decide +kernel) (pa_cons (pv 2) pa_nil)) pe_int) (pa_cons (pe_op op_mul pe_int (pv 1)) pa_nil))))))), ?_⟩
  walk_at "rd"
  refine ⟨a, ns, k, rfl, hS, fun n => ?_⟩
  walk_at "rd"
  refine Rd.mkL fun p hp => ?_
  have e1 := Int.emod_nonneg n (show (2147483647 : Int) ≠ 0 by decide)
  have e2 := Int.emod_lt_of_pos n (show (0 : Int) < 2147483647 by decide)
  exact hQ p _ _ hp ⟨Int.emod_nonneg _ (by decide +kernel), e1, e2, by omega, by omega⟩
theorem ok_random (F : FnP K "_law_random" s_law_random f fd) (F_h : FnP K "_law_hash" s_law_hash f_h fd_h) (g_law_hash : mg "_law_hash" = some (.ref f_h)) (T : TxtD mg) : FnOk P w K mg base CX0 2 f fd ["generator", "bound"] sp_random := by
  have G_law_hash : FnOk P w K mg base CX0 1 f_h fd_h ["seed", "index"] sp_hash := ok_hash F_h T
  have b_law_hash : Binds K fd_h ["seed", "index"] [] := F_h.bindsN fun _ _ _ _ _ _ us hl => match us, hl with | [_, _], _ => rfl
  have k_law_hash := F_h.kp
  refine F.ok sc_law_random (fun vs H Q E h => ?_) (fun cdv A outer s H vs Q E hr h => ?_)
  · obtain ⟨g, x, y, z, m, rfl, _⟩ := h
    rfl
  obtain ⟨g, x, y, z, m, rfl, hg, ⟨h1, h2, h3, h4, h5⟩, hm, hm2, hQ⟩ := h
  have hmn : m.natAbs < 2 ^ 60 := by omega
  have hdw : ∀ i, CDivW i m := fun i => wide_div (b := 60) hm hmn (by decide) (by decide)
  have hd30 : ∀ i, CDivW i 30 := fun i => wide_div (b := 5) (by decide) (by decide) (by decide) (by decide)
  have em := Int.emod_nonneg x (show m ≠ 0 by omega)
  have el := Int.emod_lt_of_pos x hm
  have ed := Int.ediv_nonneg h1 (Int.le_of_lt hm)
  have hbits := PyProof.Rows.intBits_le hmn
  refine ⟨_, PSs.nox (pss_cons (ps_if (pt_cmpR op_gt (pe_ix (show IxR _ (rIxL K) from ix_list) (pv 0) pe_int (fun _ _ => rfl)) pe_int (nomark _)) (pss_cons (ps_set (i := 2) sc_law_random.nd rfl (by first | exact Or.inl rfl | exact Or.inr rfl) (pe_op op_mod (pe_callTy Rd.c_int (by rfl) T.m_int (by decide +kernel) (pa_cons (pe_ix (show IxR _ (rIxL K) from ix_list) (pv 0) pe_int (fun _ _ => rfl)) pa_nil)) (pv 1)))
    (pss_cons (ps_asg (pe_op op_fdivW (pe_ix (show IxR _ (rIxL K) from ix_list) (pv 0) pe_int (fun _ _ => rfl)) (pv 1)) (pg_sub (pv 0) pe_int set_list))
    (pss_one (ps_ret (pv 2))))) pss_nil)
    (pss_cons (ps_set (i := 2) sc_law_random.nd rfl (by first | exact Or.inl rfl | exact Or.inr rfl) pe_int)
    (pss_cons (ps_for PassesOwn.never rfl (pi_range1 (by rfl) T.m_range (pa_cons (pe_op op_add pe_int (pe_op op_fdivW (pe_bits (pv 1)) pe_int)) pa_nil)) (pg_name (i := 3) sc_law_random.nd rfl (by first | exact Or.inl rfl | exact Or.inr rfl)) (pss_cons (ps_asg (pe_op op_add (pe_ix (show IxR _ (rIxL K) from ix_list) (pv 0) pe_int (fun _ _ => rfl)) pe_int) (pg_sub (pv 0) pe_int set_list))
    (pss_one (ps_set (i := 2) sc_law_random.nd rfl (by first | exact Or.inl rfl | exact Or.inr rfl) (pe_op op_add (pe_op op_mul (pv 2) pe_int) (pe_call G_law_hash (hr.mono (by decide)) rfl g_law_hash k_law_hash b_law_hash .nil pass0 (pa_cons (pe_ix (show IxR _ (rIxL K) from ix_list) (pv 0) pe_int (fun _ _ => rfl)) (pa_cons (pe_ix (show IxR _ (rIxL K) from ix_list) (pv 0) pe_int (fun _ _ => rfl)) pa_nil))))))))
    (pss_one (ps_ret (pe_op op_mod (pe_callTy Rd.c_int (by rfl) T.m_int (by decide +kernel) (pa_cons (pv 2) pa_nil)) (pv 1))))))), ?_⟩
  walk_at "rd"
  refine Rd.br (fun c => ?_) (fun _ => ?_)
  · walk_at "rd"
    refine Rd.ic (hdw _) ?_
    walk_at "rd"
    exact hQ _ _ _ em el ed (Int.le_refl _) (by omega)
  · walk_at "rd"
    have k3 : (Builtin.Int.intBits m : Int) / 30 ≤ 2 := by omega
    have k0 : (0 : Int) ≤ (Builtin.Int.intBits m : Int) / 30 := by omega
    refine Rd.i1 (by omega) (by omega) ?_
    have us : upd H g (.lst [.int x, .int y, .int (z + (0 : Nat))]) = H := by
      funext b
      unfold upd
      split
      · rename_i e; rw [e, hg]; simp
      · rfl
    refine Rd.byR (fun i σ H' => ∃ (d : Int) (t : Option V), σ = [some (.ref g), some (.int m), some (.int d), t] ∧ H' = upd H g (.lst [.int x, .int y, .int (z + (i : Nat))])) ⟨0, none, rfl, us.symm⟩ (fun i σ H' hi h => ?_) (fun σ H' h => ?_)
    · obtain ⟨d, t, rfl, rfl⟩ := h
      have hi2 : i ≤ 2 := by omega
      walk_at "rd"
      refine ⟨_, _, rfl, h2, h3, by omega, by omega, fun n => ?_⟩
      walk_at "rd"
      refine ⟨_, _, rfl, ?_⟩
      rw [upd_upd, Int.natCast_succ, Int.add_assoc]
      rfl
    · obtain ⟨d, t, rfl, rfl⟩ := h
      walk_at "rd"
      exact hQ _ _ _ (Int.emod_nonneg _ (by omega)) (Int.emod_lt_of_pos _ hm) h1 (by omega) (by omega)
end

/-! ### data that stays -/
section
variable {K : PySem.W.Frag} {H H' : Hp}
theorem sqT_same (e : Same H H') {a : Addr} {xs : List V} (h : SqT K H a xs) : SqT K H' a xs := by
  rcases h with (h | ⟨o, h⟩) | h
  · exact .inl (.inl (e _ _ h))
  · exact .inl (.inr ⟨o, e _ _ h⟩)
  · exact .inr h
mutual
theorem Dq.same (e : Same H H') : ∀ (d : PyData) (v : V), Dq K H v d → Dq K H' v d
  | .none, _, h => by cases h; exact .non
  | .bool b, _, h => by cases h; exact .bl b
  | .int i, _, h => by cases h; exact .int i
  | .str x, _, h => by cases h; exact .str x
  | .list ds, _, h => by
    cases h with
    | lst hs ha => exact .lst (e.seq hs) (Dq.sameAll e ds _ ha)
  | .tuple ds, _, h => by
    cases h with
    | tup hs ha => exact .tup (sqT_same e hs) (Dq.sameAll e ds _ ha)
  | .dict qs, _, h => by
    cases h with
    | dct hs ha => exact .dct (e _ _ hs) (Dq.sameKv e qs _ ha)
theorem Dq.sameAll (e : Same H H') : ∀ (ds : List PyData) (vs : List V), DqAll K H vs ds → DqAll K H' vs ds
  | [], _, h => by cases h; exact .nil
  | d :: ds, _, h => by
    cases h with
    | cons h1 h2 => exact .cons (Dq.same e d _ h1) (Dq.sameAll e ds _ h2)
theorem Dq.sameKv (e : Same H H') : ∀ (qs : List (PyData × PyData)) (kvs : List (Key × V)), DqKv K H kvs qs → DqKv K H' kvs qs
  | [], _, h => by cases h; exact .nil
  | q :: qs, _, h => by
    cases h with
    | cons h1 h2 => exact .cons (Dq.same e _ _ h1) (Dq.sameKv e qs _ h2)
end
theorem dqAll_app {vs ws : List V} {ds es : List PyData} (h2 : DqAll K H ws es) : DqAll K H vs ds → DqAll K H (vs ++ ws) (ds ++ es) := fun h1 => by
  match vs, ds, h1 with
  | [], [], .nil => exact h2
  | _ :: _, _ :: _, .cons a b => exact .cons a (dqAll_app h2 b)
theorem dqAll_strs : ∀ xs : List Str, DqAll K H (xs.map V.str) (xs.map PyData.str)
  | [] => .nil
  | x :: xs => .cons (.str x) (dqAll_strs xs)
theorem dqAll_len : ∀ {vs : List V} {ds : List PyData}, DqAll K H vs ds → vs.length = ds.length
  | [], [], .nil => rfl
  | _ :: _, _ :: _, .cons _ b => by rw [List.length_cons, List.length_cons, dqAll_len b]
theorem dqAll_rev {vs : List V} {ds : List PyData} : DqAll K H vs ds → DqAll K H vs.reverse ds.reverse := fun h => by
  match vs, ds, h with
  | [], [], .nil => exact .nil
  | _ :: _, _ :: _, .cons a b =>
    rw [List.reverse_cons, List.reverse_cons]
    exact dqAll_app (.cons a .nil) (dqAll_rev b)
theorem dqAll_get {vs : List V} {ds : List PyData} (h : DqAll K H vs ds) {i : Nat} {v : V} (e : vs[i]? = some v) : ∃ d, ds[i]? = some d ∧ Dq K H v d := by
  match vs, ds, h, i, e with
  | _ :: _, _ :: _, .cons a b, 0, e => cases e; exact ⟨_, rfl, a⟩
  | _ :: _, _ :: _, .cons a b, i + 1, e => exact dqAll_get b (i := i) e
theorem dqAll_take {vs : List V} {ds : List PyData} (n : Nat) (h : DqAll K H vs ds) : DqAll K H (vs.take n) (ds.take n) := by
  match vs, ds, h, n with
  | [], [], .nil, n => rw [List.take_nil, List.take_nil]; exact .nil
  | _ :: _, _ :: _, .cons a b, 0 => exact .nil
  | _ :: _, _ :: _, .cons a b, n + 1 => exact .cons a (dqAll_take n b)
theorem dqAll_drop {vs : List V} {ds : List PyData} (n : Nat) (h : DqAll K H vs ds) : DqAll K H (vs.drop n) (ds.drop n) := by
  match vs, ds, h, n with
  | [], [], .nil, n => rw [List.drop_nil, List.drop_nil]; exact .nil
  | _ :: _, _ :: _, .cons a b, 0 => exact .cons a b
  | _ :: _, _ :: _, .cons a b, n + 1 => exact dqAll_drop n b
end
/-! ### the heap behind a draw; what is written once for all (W) -/
def But (g : Addr) (H H' : Hp) : Prop := ∀ b o, b ≠ g → H b = some o → H' b = some o
theorem But.of {g : Addr} {H H' : Hp} (s : Same H H') : But g H H' := fun b o _ e => s b o e
theorem But.trans {g : Addr} {H H1 H2 : Hp} (a : But g H H1) (b : But g H1 H2) : But g H H2 := fun c o n e => b c o n (a c o n e)
theorem But.then {g : Addr} {H H1 H2 : Hp} (a : But g H H1) (s : Same H1 H2) : But g H H2 := fun c o n e => s c o (a c o n e)
theorem But.same {g : Addr} {W H H' : Hp} (b : But g H H') (s : Same W H) (n : W g = none) : Same W H' := fun c o e => b c o (fun z => by rw [z, n] at e; cases e) (s c o e)
/-- a generator with n more draws -/
def GenAt (H : Hp) (g : Addr) (n : Nat) : Prop := ∃ x y z : Int, H g = some (.lst [.int x, .int y, .int z]) ∧ 0 ≤ x ∧ 0 ≤ y ∧ y < 2147483647 ∧ 0 ≤ z ∧ z + 4 * (n : Int) ≤ 2 ^ 40
theorem GenAt.less {H : Hp} {g : Addr} {n m : Nat} (h : GenAt H g n) (l : m ≤ n) : GenAt H g m := by
  obtain ⟨x, y, z, e, h1, h2, h3, h4, h5⟩ := h
  exact ⟨x, y, z, e, h1, h2, h3, h4, by omega⟩
theorem GenAt.same {H H' : Hp} {g : Addr} {n : Nat} (h : GenAt H g n) (s : Same H H') : GenAt H' g n := by
  obtain ⟨x, y, z, e, r⟩ := h
  exact ⟨x, y, z, s _ _ e, r⟩
theorem same_put {W H : Hp} {p : Addr} {o : HO} (s : Same W H) (e : H p = some o) : Same (upd W p o) H := fun b u z => by
  by_cases c : b = p
  · rw [c, upd_same] at z
    cases z
    rw [c]; exact e
  · rw [upd_ne c] at z
    exact s b u z
/-- W' holds W and, besides, only what H does not hold -/
structure Grow (W W' H : Hp) : Prop where
  s : Same W W'
  n : ∀ b o, H b = some o → W b = none → W' b = none
theorem Grow.refl {W H : Hp} : Grow W W H := ⟨Same.refl W, fun _ _ _ w => w⟩
theorem Grow.put {W W' H : Hp} {p : Addr} {o : HO} (gr : Grow W W' H) (hp : H p = none) (wp : W' p = none) : Grow W (upd W' p o) H :=
  ⟨gr.s.trans (same_upd wp), fun b u e w => (upd_ne (ne_of_none e hp)).trans (gr.n b u e w)⟩
theorem Grow.trans {W W1 W2 H H1 : Hp} (a : Grow W W1 H) (b : Grow W1 W2 H1) (l : ∀ x o, H x = some o → ∃ u, H1 x = some u) : Grow W W2 H :=
  ⟨a.s.trans b.s, fun x o e w => by
    obtain ⟨u, h⟩ := l x o e
    exact b.n x u h (a.n x o e w)⟩
theorem But.alive {g : Addr} {H H' : Hp} {n : Nat} (b : But g H H') (hg : GenAt H' g n) : ∀ x o, H x = some o → ∃ u, H' x = some u := fun x o e => by
  by_cases c : x = g
  · obtain ⟨_, _, _, h, _⟩ := hg
    rw [c]
    exact ⟨_, h⟩
  · exact ⟨o, b x o c e⟩
theorem Same.alive {H H' : Hp} (s : Same H H') : ∀ x o, H x = some o → ∃ u, H' x = some u := fun x o e => ⟨o, s x o e⟩
theorem GenAt.got {H : Hp} {g : Addr} {n : Nat} (h : GenAt H g n) : ∃ o, H g = some o := by
  obtain ⟨_, _, _, e, _⟩ := h
  exact ⟨_, e⟩
theorem Grow.gen {W W' H : Hp} {g : Addr} {n : Nat} (gr : Grow W W' H) (h : GenAt H g n) (w : W g = none) : W' g = none := by
  obtain ⟨o, e⟩ := h.got
  exact gr.n g o e w

/-! ### draws with a budget -/
def sp_rnd : Sp := fun vs H Q _ => ∃ (g : Addr) (m : Int) (n : Nat), vs = [.ref g, .int m] ∧ 0 < m ∧ m < 2 ^ 60 ∧ GenAt H g (n + 1) ∧ ∀ (r : Nat) H', (r : Int) < m → But g H H' → GenAt H' g n → Q (.int (r : Int)) H'
theorem ok_rnd {P : Program} {w : World} {K : PySem.W.Frag} {mg : Str → Option Value} {base : Heap} {f f_h : Addr} {fd fd_h : FuncData} (F : FnP K "_law_random" s_law_random f fd) (F_h : FnP K "_law_hash" s_law_hash f_h fd_h) (g_law_hash : mg "_law_hash" = some (.ref f_h)) (T : TxtD mg) :
    FnOk P w K mg base CX0 2 f fd ["generator", "bound"] sp_rnd := (ok_random F F_h g_law_hash T).imp fun vs H Q E h => by
  obtain ⟨g, m, n, rfl, h1, h2, ⟨x, y, z, e, a1, a2, a3, a4, a5⟩, q⟩ := h
  refine ⟨g, x, y, z, m, rfl, e, ⟨a1, a2, a3, a4, by omega⟩, h1, h2, fun r x' z' b1 b2 b3 b4 b5 => ?_⟩
  have z1 := q r.toNat (upd H g (.lst [.int x', .int y, .int z'])) (by omega) (fun b o ne eb => (upd_ne ne).trans eb) ⟨x', y, z', upd_same, b3, a2, a3, by omega, by omega⟩
  rw [Int.toNat_of_nonneg b1] at z1
  exact z1
theorem rnd {g : Addr} {m : Int} {n : Nat} {H : Hp} {Q : VK} {E : XK} (h : GenAt H g n) (l : 1 ≤ n) (q : ∀ (r : Nat) H', (r : Int) < m → But g H H' → GenAt H' g (n - 1) → Q (.int (r : Int)) H') (m0 : 0 < m := by decide) (m1 : m < 2 ^ 60 := by decide) : sp_rnd ([.ref g, .int m] ++ []) H Q E :=
  ⟨g, m, n - 1, rfl, m0, m1, by rw [Nat.sub_add_cancel l]; exact h, q⟩

/-! ### rights and owners drawn -/
def allR : List Str := ["write", "read", "net"]
def allO : List Str := ["app", "lib", "web"]
abbrev s_law_rights_drawn : Stmt := top 32
abbrev N_law_rights_drawn : List Str := ["generator"]
theorem sc_law_rights_drawn : FnScope N_law_rights_drawn ["generator"] (defScope s_law_rights_drawn) := ⟨rfl, rfl, rfl, by decide +kernel, rfl, by decide +kernel, by decide +kernel⟩
abbrev s_law_owners_drawn : Stmt := top 33
abbrev N_law_owners_drawn : List Str := ["generator", "rights", "found", "name", "some", "right"]
theorem sc_law_owners_drawn : FnScope N_law_owners_drawn ["generator", "rights"] (defScope s_law_owners_drawn) := ⟨rfl, rfl, rfl, by decide +kernel, rfl, by decide +kernel, by decide +kernel⟩
def sp_rights_drawn : Sp := fun vs H Q _ => ∃ (g : Addr) (n : Nat), vs = [.ref g] ∧ 1 ≤ n ∧ GenAt H g n ∧ ∀ (k : Nat) p H', k < 3 → H p = none → But g H H' → GenAt H' g (n - 1) → H' p = some (.lst ((allR.take (k + 1)).map V.str)) → Q (.ref p) H'
section
variable {P : Program} {w : World} {K : PySem.W.Frag} {mg : Str → Option Value} {base : Heap} {f f_r : Addr} {fd fd_r : FuncData}
theorem But.none {g : Addr} {H H' : Hp} (b : But g H H') {p : Addr} (hg : p ≠ g) (h : H' p = none) : H p = none := by
  cases q : H p with
  | none => rfl
  | some o => rw [b p o hg q] at h; cases h
theorem GenAt.ne {H : Hp} {g : Addr} {n : Nat} (h : GenAt H g n) {p : Addr} (hp : H p = Option.none) : p ≠ g := fun z => by
  obtain ⟨x, y, w, e, _⟩ := h
  rw [z, e] at hp
  cases hp
theorem ok_rights_drawn (F : FnP K "_law_rights_drawn" s_law_rights_drawn f fd) (G_law_random : FnOk P w K mg base CX0 2 f_r fd_r ["generator", "bound"] sp_rnd) (g_law_random : mg "_law_random" = some (.ref f_r)) (k_law_random : PySem.W.keepIn K (.ref f_r) = true) (b_law_random : Binds K fd_r ["generator", "bound"] []) :
    FnOk P w K mg base CX0 3 f fd ["generator"] sp_rights_drawn := by
  refine F.ok sc_law_rights_drawn (fun vs H Q E h => ?_) (fun cdv A outer s H vs Q E hr h => ?_)
  · obtain ⟨g, n, rfl, _⟩ := h
    rfl
  obtain ⟨g, n, rfl, n1, hg, hQ⟩ := h
  refine ⟨_, PSs.nox (pss_one (ps_ret (pe_slice (show L2.SlR _ (rSlL K) from sl_list) (pe_lst (pa_cons pe_str (pa_cons pe_str (pa_cons pe_str pa_nil)))) po_none (po_some (pe_op op_add pe_int (pe_call G_law_random (hr.mono (by decide)) rfl g_law_random k_law_random b_law_random .nil pass0 (pa_cons (pv 0) (pa_cons pe_int pa_nil)))))))), ?_⟩
  walk_at "rd"
  refine mkLs fun p H1 np s1 e1 => ?_
  walk_at "rd"
  refine rnd (hg.same s1) n1 fun r H2 hr b g2 => ?_
  walk_at "rd"
  have npg : p ≠ g := hg.ne np
  refine Rd.slOf (.inl (.inl (b _ _ npg e1))) fun q hq => ?_
  have s3 : Same H2 (upd H2 q (.lst (cutV [V.str "write", V.str "read", V.str "net"] none (some (1 + (r : Int)))))) := same_upd hq
  have nq : q ≠ g := g2.ne hq
  refine hQ r q _ (by omega) (((But.of s1).trans b).none nq hq) (((But.of s1).trans b).then s3) (g2.same s3) ?_
  rw [upd_same]
  have hr3 : r < 3 := by omega
  match r, hr3 with
  | 0, _ => rfl
  | 1, _ => rfl
  | 2, _ => rfl
/-- owners: drawn names, their rights -/
def OwnOk (rs : List Str) (os : List (Str × List Str)) : Prop := (∃ k, k < 3 ∧ (os.map (·.1) = allO.take (k + 1) ∨ os.map (·.1) = (allO.take (k + 1)).reverse)) ∧ ∀ o ∈ os, o.2.Nodup ∧ (∀ r ∈ o.2, r ∈ rs) ∧ o.2.length ≤ 5
def od (o : Str × List Str) : PyData := .tuple [.str o.1, .list (o.2.map .str)]
def ownD (os : List (Str × List Str)) : PyData := .list (os.map od)
/-- t if .. else its reverse -/
theorem ifRev {σ : L2.St} {H : Hp} {Q : VK} {g s : Addr} {xs : List V} {n j : Nat} {m : Int} (h0 : σ[0]? = some (some (.ref g))) (hj : σ[j]? = some (some (.ref s))) (hs : H s = some (.lst xs)) (hg : GenAt H g n) (l : 1 ≤ n) (sg : s ≠ g)
    (q : ∀ t H' ys, (ys = xs ∨ ys = xs.reverse) → But g H H' → GenAt H' g (n - 1) → H' t = some (.lst ys) → (t = s ∨ H t = none) → Q (.ref t) H') (m0 : 0 < m := by decide) (m1 : m < 2 ^ 60 := by decide) :
    tIf (tTest (tOp rEq (tCall sp_rnd [] E0 (tCons (tVar 0) (tCons (tC (V.int m)) tNil))) (tC (V.int 0)))) (tRevL K (tVar j)) (tVar j) σ H Q := by
  refine Rd.ife (Rd.tst (Rd.op (Rd.call (Rd.cons (Rd.var h0 (Rd.cons (Rd.con (Rd.nil (rnd hg l (fun r H1 hr b g1 => Rd.con (Rd.eq_ rfl (Rd.bl (Rd.br (fun _ => ?_) fun _ => ?_)))) m0 m1))))))))) 
  · refine Rd.rev (Rd.var hj (Rd.revAt (.inl (.inl (b _ _ sg hs))) fun p hp => ?_))
    have pg : p ≠ g := g1.ne hp
    exact q p _ _ (.inr rfl) (b.then (same_upd hp)) (g1.same (same_upd hp)) upd_same (.inr (b.none pg hp))
  · exact Rd.var hj (q s H1 xs (.inl rfl) b g1 (b _ _ sg hs) (.inl rfl))
/-- [x for x in xs if a draw says so] -/
theorem compSub {g R D : Addr} {n : Nat} {rs : List Str} {W Hc : Hp} {Qd : Hp → Prop} {o2 o3 o4 o5 : Option V} (sW : Same W Hc) (Wg : W g = none) (WR : W R = some (.lst (rs.map V.str))) (hD : Hc D = none) (hg : GenAt Hc g n) (hn : rs.length ≤ n)
    (q : ∀ (xs : List Str) H', xs.Sublist rs → Same W H' → But g Hc H' → GenAt H' g (n - rs.length) → H' D = some (.lst (xs.map V.str)) → Qd H') (rl : rs.length ≤ 5) :
    Rd.compL K R (gName 5) (tTest (tOp (rI0 fun i j => V.bl (decide (j < i))) (tCall sp_rnd [] E0 (tCons (tVar 0) (tCons (tC (V.int 3)) tNil))) (tC (V.int 0)))) (tVar 5) [5] [some (.ref g), some (.ref R), o2, o3, o4, o5] D Qd Hc := by
  have gD : D ≠ g := hg.ne hD
  refine Rd.byCL (xs := rs.map V.str) (fun i H' => Same W H' ∧ But g Hc H' ∧ GenAt H' g (n - i) ∧ ∃ xs : List Str, xs.Sublist (rs.take i) ∧ H' D = some (.lst (xs.map V.str)))
    ⟨sW.trans (same_upd hD), But.of (same_upd hD), hg.same (same_upd hD), [], List.nil_sublist _, upd_same⟩ (fun i H' hi h => .inl (.inl (h.1 _ _ WR))) (fun i x H' hx h => ?_) (fun H' h => ?_)
  · obtain ⟨s1, b1, g1, xs, hs, eD⟩ := h
    rw [List.getElem?_map] at hx
    obtain ⟨r, hr, rfl⟩ := Option.map_eq_some_iff.mp hx
    have hi := (List.getElem?_eq_some_iff.mp hr).1
    refine Rd.turnIf rfl ?_
    walk_at "rd"
    refine rnd g1 (by omega) fun k H1 hk b2 g2 => ?_
    have eD2 := b2 _ _ gD eD
    have tk : rs.take (i + 1) = rs.take i ++ [r] := by rw [List.take_add_one, hr]; rfl
    walk_at "rd"
    refine Rd.br (fun _ => ?_) fun _ => ?_
    · walk_at "rd"
      have lx : xs.length < 1000 := by
        have := hs.length_le
        rw [List.length_take] at this
        omega
      refine Rd.acc eD2 (by rw [List.length_map]; exact lx) ⟨?_, ?_, ?_, xs ++ [r], ?_, ?_⟩
      · intro b o e
        exact (upd_ne (ne_of_none (sW _ _ e) hD)).trans (b2.same s1 Wg _ _ e)
      · intro b o ne e
        exact (upd_ne (ne_of_none e hD)).trans (b2 _ _ ne (b1 _ _ ne e))
      · obtain ⟨x, y, z, e, r⟩ := g2
        exact ⟨x, y, z, (upd_ne (Ne.symm gD)).trans e, r.1, r.2.1, r.2.2.1, r.2.2.2.1, by have := r.2.2.2.2; omega⟩
      · rw [tk]
        exact hs.append (List.Sublist.refl _)
      · rw [upd_same, List.map_append]; rfl
    · refine ⟨b2.same s1 Wg, b1.trans b2, g2.less (by omega), xs, ?_, eD2⟩
      rw [tk]
      exact hs.trans (List.sublist_append_left _ _)
  · obtain ⟨s1, b1, g1, xs, hs, eD⟩ := h
    rw [List.length_map] at g1 hs
    rw [List.take_length] at hs
    exact q xs H' hs s1 b1 g1 eD
def sp_owners_drawn (K : PySem.W.Frag) : Sp := fun vs H Q _ => ∃ (g R : Addr) (W : Hp) (n : Nat) (rs : List Str), vs = [.ref g, .ref R] ∧ Same W H ∧ W g = none ∧ W R = some (.lst (rs.map V.str)) ∧ rs.Nodup ∧ rs.length ≤ 5 ∧ 30 ≤ n ∧ GenAt H g n ∧
  ∀ (os : List (Str × List Str)) p W' H', OwnOk rs os → But g H H' → Grow W W' H → Same W' H' → GenAt H' g (n - 30) → Dq K W' (.ref p) (ownD os) → Q (.ref p) H'
theorem ok_owners_drawn (F : FnP K "_law_owners_drawn" s_law_owners_drawn f fd) (G_law_random : FnOk P w K mg base CX0 2 f_r fd_r ["generator", "bound"] sp_rnd) (g_law_random : mg "_law_random" = some (.ref f_r)) (k_law_random : PySem.W.keepIn K (.ref f_r) = true) (b_law_random : Binds K fd_r ["generator", "bound"] []) :
    FnOk P w K mg base CX0 3 f fd ["generator", "rights"] (sp_owners_drawn K) := by
  refine F.ok sc_law_owners_drawn (fun vs H Q E h => ?_) (fun cdv A outer s H vs Q E hr h => ?_)
  · obtain ⟨g, R, W, n, rs, rfl, _⟩ := h
    rfl
  obtain ⟨g, R, W, n, rs, rfl, sW, Wg, WR, rnd0, rlen, hn, hg, hQ⟩ := h
  refine ⟨_, PSs.nox (pss_cons (ps_set (i := 2) sc_law_owners_drawn.nd rfl (by first | exact Or.inl rfl | exact Or.inr rfl) (pe_lst pa_nil))
    (pss_cons (ps_for PassesOwn.never rfl (Rd.pi_listK (K := K) rfl (pe_slice (show L2.SlR _ (rSlL K) from sl_list) (pe_lst (pa_cons pe_str (pa_cons pe_str (pa_cons pe_str pa_nil)))) po_none (po_some (pe_op op_add pe_int (pe_call G_law_random (hr.mono (by decide)) rfl g_law_random k_law_random b_law_random .nil pass0 (pa_cons (pv 0) (pa_cons pe_int pa_nil))))))) (pg_name (i := 3) sc_law_owners_drawn.nd rfl (by first | exact Or.inl rfl | exact Or.inr rfl)) (pss_cons (ps_setLc (i := 4) (own := [("right", 5)]) (g := gName 5) rfl sc_law_owners_drawn.nd rfl rfl (sw_true rfl rfl rfl (by decide +kernel)) (Rd.pi_listK (K := K) rfl (pv 1)) (blkOk_by (N := N_law_owners_drawn) (sc := defScope s_law_owners_drawn) (by decide +kernel)) (fun _ _ _ _ _ => pg_name (i := 5) sc_law_owners_drawn.nd rfl (Or.inl rfl)) (fun _ _ _ _ _ => (pts_one (pt_cmpR op_gt (pe_call G_law_random (hr.mono (by decide)) rfl g_law_random k_law_random b_law_random .nil pass0 (pa_cons (pv 0) (pa_cons pe_int pa_nil))) pe_int (nomark _)))) (fun _ _ _ _ _ => (pv 5)))
    (pss_one (ps_expr (pe_bm PySem.F.plainAttrs_list PySem.F.slot_list_append PySem.F.type_list_append mt_append (pv 2) (pa_cons (pe_tup (pa_cons (pv 3) (pa_cons (pe_ifExp (pt_cmpR op_eq (pe_call G_law_random (hr.mono (by decide)) rfl g_law_random k_law_random b_law_random .nil pass0 (pa_cons (pv 0) (pa_cons pe_int pa_nil))) pe_int (nomark _)) (Rd.pe_revLK (K := K) rfl (pv 4)) (pv 4)) pa_nil))) pa_nil))))))
    (pss_one (ps_ret (pe_ifExp (pt_cmpR op_eq (pe_call G_law_random (hr.mono (by decide)) rfl g_law_random k_law_random b_law_random .nil pass0 (pa_cons (pv 0) (pa_cons pe_int pa_nil))) pe_int (nomark _)) (Rd.pe_revLK (K := K) rfl (pv 2)) (pv 2)))))), ?_⟩
  walk_at "rd"
  refine mkLs fun F0 H1 nF s1 eF => ?_
  walk_at "rd"
  refine mkLs fun L0 H2 nL s2 eL => ?_
  walk_at "rd"
  refine rnd ((hg.same s1).same s2) (by omega) fun k H3 hk b3 g3 => ?_
  walk_at "rd"
  have b03 : But g H H3 := ((But.of (s1.trans s2)).trans b3)
  have W3 : Same W H3 := b03.same sW Wg
  have gF : F0 ≠ g := hg.ne nF
  have gL : L0 ≠ g := (hg.same s1).ne nL
  have eF3 := b3 _ _ gF (s2 _ _ eF)
  refine Rd.slOf (.inl (.inl (b3 _ _ gL eL))) fun p hp => ?_
  have pg : p ≠ g := g3.ne hp
  have ec : cutV [V.str "app", V.str "lib", V.str "web"] none (some (1 + (k : Int))) = (allO.take (k + 1)).map V.str := by
    have hk3 : k < 3 := by omega
    match k, hk3 with
    | 0, _ => rfl
    | 1, _ => rfl
    | 2, _ => rfl
  rw [ec]
  generalize hNs : allO.take (k + 1) = Ns
  have nNs : Ns.length = k + 1 := by
    rw [← hNs, List.length_take]
    show min (k + 1) 3 = k + 1
    omega
  refine Rd.l1 (.inl (.inl upd_same)) ?_
  have s4 := same_upd (o := HO.lst (Ns.map V.str)) hp
  have pF : p ≠ F0 := fun z => by rw [z, eF3] at hp; cases hp
  refine Rd.byL (xs := Ns.map V.str) (fun i σ H' => ∃ (W' : Hp) (os : List (Str × List Str)) (items : List V) (o3 o4 o5 : Option V), σ = [some (.ref g), some (.ref R), some (.ref F0), o3, o4, o5] ∧ Grow W W' H ∧ Same W' H' ∧ W' g = none ∧ W' F0 = none ∧
      But g H H' ∧ H' p = some (.lst (Ns.map V.str)) ∧ H' F0 = some (.lst items) ∧ DqAll K W' items (os.map od) ∧ os.map (·.1) = Ns.take i ∧ (∀ o ∈ os, o.2.Nodup ∧ (∀ r ∈ o.2, r ∈ rs) ∧ o.2.length ≤ 5) ∧ GenAt H' g (n - 1 - 6 * i))
    ⟨W, [], [], none, none, none, rfl, Grow.refl, W3.trans s4, Wg, same_none sW nF, b03.then s4, upd_same, s4 _ _ eF3, .nil, rfl, (fun o z => nomatch z), (g3.same s4).less (by omega)⟩ (fun i σ H' hi h => ?_) (fun i x σ H' hx h => ?_) (fun σ H' h => ?_)
  · obtain ⟨_, _, _, _, _, _, _, _, _, _, _, _, z, _⟩ := h
    exact .inl (.inl z)
  · obtain ⟨W', os, items, o3, o4, o5, rfl, a1, a2, a3, a4, a5, a6, a7, a8, a9, a10, a11⟩ := h
    rw [List.getElem?_map] at hx
    obtain ⟨nm, hnm, rfl⟩ := Option.map_eq_some_iff.mp hx
    have hi := (List.getElem?_eq_some_iff.mp hnm).1
    walk_at "rd"
    refine Rd.l1 (.inl (.inl (a2 _ _ (a1.s _ _ WR)))) fun D hD => ?_
    have gD : D ≠ g := a11.ne hD
    refine compSub a2 a3 (a1.s _ _ WR) hD a11 (by omega) (fun xs H5 hs c1 c2 c3 c4 => ?_) rlen
    walk_at "rd"
    have fD : F0 ≠ D := fun z => by rw [← z, a7] at hD; cases hD
    have pD : p ≠ D := fun z => by rw [← z, a6] at hD; cases hD
    refine Rd.app (c2 _ _ gF a7) ?_
    refine Rd.cons (Rd.tup (Rd.cons (Rd.var rfl (Rd.cons (ifRev rfl rfl c4 c3 (by omega) gD fun t H6 ys hy d1 d2 d3 d4 => ?_)))))
    walk_at "rd"
    refine mkTs fun T H7 nT s7 eT => ?_
    walk_at "rd"
    have WD : W' D = none := same_none a2 hD
    have Wt : W' t = none := by
      rcases d4 with rfl | d4
      · exact WD
      · exact same_none c1 d4
    have tF : t ≠ F0 := by
      rcases d4 with rfl | d4
      · exact Ne.symm fD
      · exact fun z => by rw [z, c2 _ _ gF a7] at d4; cases d4
    have tg : t ≠ g := by
      rcases d4 with rfl | d4
      · exact gD
      · exact c3.ne d4
    have Tg : T ≠ g := d2.ne nT
    have HD : H D = none := a5.none gD hD
    have Ht : H t = none := by
      rcases d4 with rfl | d4
      · exact HD
      · exact (a5.trans c2).none tg d4
    have HT : H T = none := ((a5.trans c2).trans d1).none Tg nT
    have b57 := (c2.trans d1).then s7
    have WT : upd W' t (.lst ys) T = none := by
      rw [upd_ne (fun z => by rw [z, d3] at nT; cases nT)]
      exact same_none (d1.same c1 a3) nT
    have sW7 : Same (upd W' t (.lst ys)) H7 := (same_put (d1.same c1 a3) d3).trans s7
    refine Rd.appTo (b57 _ _ gF a7) (by rw [dqAll_len a8, List.length_map, ← List.length_map (f := (·.1)), a9, List.length_take]; omega) ?_
    obtain ⟨zs, hz1, hz2⟩ : ∃ zs : List Str, ys = zs.map V.str ∧ (zs = xs ∨ zs = xs.reverse) := by
      rcases hy with rfl | rfl
      · exact ⟨xs, rfl, .inl rfl⟩
      · exact ⟨xs.reverse, (List.map_reverse).symm, .inr rfl⟩
    have hzn : zs.Nodup ∧ (∀ r ∈ zs, r ∈ rs) ∧ zs.length ≤ 5 := by
      have nx := hs.nodup rnd0
      have nl := Nat.le_trans hs.length_le rlen
      rcases hz2 with rfl | rfl
      · exact ⟨nx, fun r hr => hs.subset hr, nl⟩
      · exact ⟨List.pairwise_reverse.mpr (nx.imp Ne.symm), fun r hr => hs.subset (List.mem_reverse.mp hr), by rw [List.length_reverse]; exact nl⟩
    subst hz1
    have f7 := b57 _ _ gF a7
    have TF : T ≠ F0 := fun z => by rw [z, d1 _ _ gF (c2 _ _ gF a7)] at nT; cases nT
    have Wfin : Same W' (upd (upd W' t (.lst (zs.map V.str))) T (.tup [.str nm, .ref t])) := (same_upd Wt).trans (same_upd WT)
    have wF : upd (upd W' t (.lst (zs.map V.str))) T (.tup [.str nm, .ref t]) F0 = none := (upd_ne (Ne.symm TF)).trans ((upd_ne (Ne.symm tF)).trans a4)
    refine ⟨upd (upd W' t (.lst (zs.map V.str))) T (.tup [.str nm, .ref t]), os ++ [(nm, zs)], items ++ [.ref T], _, _, _, rfl, (a1.put Ht Wt).put HT WT, ?_, ?_, wF, ?_, ?_, upd_same, ?_, ?_, ?_, ?_⟩
    · intro b o e
      exact (upd_ne (fun z => by rw [z, wF] at e; cases e)).trans (same_put sW7 eT _ _ e)
    · exact (upd_ne (Ne.symm Tg)).trans ((upd_ne (Ne.symm tg)).trans a3)
    · intro b o ne e
      exact (upd_ne (ne_of_none e nF)).trans (b57 _ _ ne (a5 _ _ ne e))
    · exact (upd_ne pF).trans (b57 _ _ pg a6)
    · rw [List.map_append]
      refine dqAll_app ?_ (Dq.sameAll Wfin _ _ a8)
      exact .cons (.tup (.inl (.inl upd_same)) (.cons (.str nm) (.cons (.lst (.inl (.inl ((upd_ne (fun z => by rw [← z, d3] at nT; cases nT)).trans upd_same))) (dqAll_strs zs)) .nil))) .nil
    · rw [List.map_append, a9, List.take_add_one, hnm]; rfl
    · intro o ho
      rcases List.mem_append.mp ho with ho | ho
      · exact a10 o ho
      · cases List.mem_singleton.mp ho
        exact hzn
    · have g7 := (d2.same s7)
      obtain ⟨x, y, z, e, r⟩ := g7
      exact ⟨x, y, z, (upd_ne (Ne.symm gF)).trans e, r.1, r.2.1, r.2.2.1, r.2.2.2.1, by have := r.2.2.2.2; omega⟩
  · obtain ⟨W', os, items, o3, o4, o5, rfl, a1, a2, a3, a4, a5, a6, a7, a8, a9, a10, a11⟩ := h
    rw [List.length_map] at a9 a11
    rw [List.take_length] at a9
    refine Rd.ret (ifRev rfl rfl a7 a11 (by omega) gF fun t H6 ys hy d1 d2 d3 d4 => ?_)
    have Wt : W' t = none := by
      rcases d4 with rfl | d4
      · exact a4
      · exact same_none a2 d4
    have tg : t ≠ g := by
      rcases d4 with rfl | d4
      · exact gF
      · exact a11.ne d4
    have Ht : H t = none := by
      rcases d4 with rfl | d4
      · exact nF
      · exact a5.none tg d4
    obtain ⟨zs, hz1, hz2⟩ : ∃ zs : List (Str × List Str), DqAll K W' ys (zs.map od) ∧ (zs = os ∨ zs = os.reverse) := by
      rcases hy with rfl | rfl
      · exact ⟨os, a8, .inl rfl⟩
      · refine ⟨os.reverse, ?_, .inr rfl⟩
        rw [List.map_reverse]
        exact dqAll_rev a8
    refine hQ zs t (upd W' t (.lst ys)) H6 ⟨⟨k, by omega, ?_⟩, ?_⟩ (a5.trans d1) (a1.put Ht Wt) (same_put (d1.same a2 a3) d3) (d2.less (by omega)) (.lst (.inl (.inl upd_same)) (Dq.sameAll (same_upd Wt) _ _ hz1))
    · rw [hNs]
      rcases hz2 with rfl | rfl
      · exact .inl a9
      · exact .inr (by rw [List.map_reverse, a9])
    · intro o ho
      rcases hz2 with rfl | rfl
      · exact a10 o ho
      · exact a10 o (List.mem_reverse.mp ho)
end

end Bs
set_option Elab.async false
set_option linter.all false
set_option maxRecDepth 100000
set_option maxHeartbeats 4000000
/-! steps and bodies drawn -/
namespace Bs
open PySem PySem.Spec PyProof.Rows L2 Gd Er
local macro_rules | `(tactic| walk_at "rdc") => `(tactic| (first
  | assumption | exact Or.inl ⟨by omega, by omega⟩ | exact Or.inr ⟨by omega, by omega⟩ | exact Or.inl ⟨by decide, by decide⟩ | exact Or.inr ⟨by decide, by decide⟩
  | (show (0 : Int) < _; omega) | (show (0 : Int) < _; decide) | decide | omega | exact ⟨by decide, by decide, by decide⟩ | exact ⟨by decide, by decide +kernel⟩ | decide +kernel))
local macro_rules | `(tactic| walk_at "rdh") => `(tactic| (first | assumption | exact upd_same))
local macro_rules | `(tactic| walk_at "rd1") => `(tactic| (first
  | (with_reducible refine Rd.var rfl ?_) | (with_reducible refine Rd.con ?_) | (with_reducible refine Rd.op ?_) | (with_reducible refine Rd.un ?_) | (with_reducible refine Rd.i0 ?_) | (with_reducible refine Rd.iu ?_)
  | (with_reducible refine Rd.nil ?_) | (with_reducible refine Rd.cons ?_) | (with_reducible refine Rd.cb ?_) | (with_reducible refine Rd.asg ?_) | (with_reducible refine Rd.name ?_) | (with_reducible refine Rd.sub ?_) | (with_reducible refine Rd.rev ?_) | (with_reducible refine Rd.drop ?_) | (with_reducible refine Rd.bm ?_) | (with_reducible refine Rd.par ?_) | (with_reducible refine Rd.p2 ?_) | (with_reducible refine Rd.sl ?_) | (with_reducible refine Rd.noPart ?_) | (with_reducible refine Rd.part ?_) | (with_reducible refine Rd.int_ ?_) | (with_reducible refine Rd.seq ?_)
  | (with_reducible refine Rd.ret ?_) | (with_reducible refine Rd.retN ?_) | (with_reducible refine Rd.nxt ?_) | (with_reducible refine Rd.tst ?_) | (with_reducible refine Rd.tb_ ?_) | (with_reducible refine Rd.tnot ?_)
  | (with_reducible refine Rd.tor ?_) | (with_reducible refine Rd.tand ?_) | (with_reducible refine Rd.ifs ?_) | (with_reducible refine Rd.ife ?_) | (with_reducible refine Rd.lst ?_) | (with_reducible refine Rd.tup ?_)
  | (with_reducible refine Rd.int1 ?_) | (with_reducible refine Rd.bl ?_) | (with_reducible refine Rd.call ?_)
  | (with_reducible refine Rd.mx ?_) | (with_reducible refine Rd.bits ?_) | (with_reducible refine Rd.forR ?_) | (with_reducible refine Rd.forL ?_) | (with_reducible refine Rd.lcR ?_) | (with_reducible refine Rd.lcL ?_) | (with_reducible refine Rd.lcT ?_) | (with_reducible refine Rd.chain ?_) | (with_reducible refine Rd.notv ?_) | (with_reducible refine Rd.forS ?_) | (with_reducible refine Rd.lcS ?_) | (with_reducible refine Rd.str_ ?_) | (with_reducible refine Rd.forE ?_) | (with_reducible refine Rd.lcI ?_) | (with_reducible refine Rd.tgt ?_) | (with_reducible refine Rd.gcons ?_) | (with_reducible refine Rd.gnil ?_) | (with_reducible refine Rd.fld ?_) | (with_reducible refine Rd.sfld ?_) | (with_reducible refine Rd.meth ?_) | (with_reducible refine Rd.forT ?_)
  | ((with_reducible refine' Rd.ixLT ?rh ?ra ?_); (case rh => walk_at "rdh"); (case ra => rfl))
  | ((with_reducible refine' Rd.setL ?rh ?ra ?_); (case rh => walk_at "rdh"); (case ra => rfl))
  | ((with_reducible refine Rd.ic ?rc ?_); (case rc => walk_at "rdc"))))
local macro_rules | `(tactic| walk_at "rd") => `(tactic| (repeat (walk_at "rd1")))


/-! ### steps and bodies -/
mutual
inductive Stp where
  | call (n : Str)
  | check (r : Str)
  | tail (n : Str)
  | back
  | either (a b : Bdy)
  | loop (a : Bdy)
  | block (m : Bool) (a : Bdy)
inductive Bdy where
  | nil
  | cons (s : Stp) (b : Bdy)
end
mutual
def Stp.d : Stp → PyData
  | .call n => .tuple [.str "call", .str n]
  | .check r => .tuple [.str "check", .str r]
  | .tail n => .tuple [.str "tail", .str n]
  | .back => .tuple [.str "back"]
  | .either a b => .tuple [.str "either", .list a.ds, .list b.ds]
  | .loop a => .tuple [.str "loop", .list a.ds]
  | .block m a => .tuple [.str "block", .bool m, .list a.ds]
def Bdy.ds : Bdy → List PyData
  | .nil => []
  | .cons s b => s.d :: b.ds
end
def Bdy.d (b : Bdy) : PyData := .list b.ds
mutual
/-- such a step is one of a program with these rights and names -/
def Stp.ok (rs ns : List Str) : Bool → Stp → Prop
  | _, .call n => n ∈ ns
  | _, .check r => r ∈ rs
  | m, .tail n => n ∈ ns ∧ m = false
  | _, .back => True
  | m, .either a b => a.ok rs ns m ∧ b.ok rs ns m
  | m, .loop a => a.ok rs ns m
  | m, .block k a => a.ok rs ns (m || k)
def Bdy.ok (rs ns : List Str) : Bool → Bdy → Prop
  | _, .nil => True
  | m, .cons s b => s.ok rs ns m ∧ b.ok rs ns m
end
mutual
/-- how deep it is -/
def Stp.dp : Stp → Nat
  | .call _ | .check _ | .tail _ | .back => 1
  | .either a b => max a.dp b.dp + 1
  | .loop a => a.dp + 1
  | .block _ a => a.dp + 1
def Bdy.dp : Bdy → Nat
  | .nil => 0
  | .cons s b => max s.dp b.dp
end
mutual
/-- its steps -/
def Stp.cnt : Stp → Nat
  | .call _ | .check _ | .tail _ | .back => 1
  | .either a b => a.cnt + b.cnt + 1
  | .loop a => a.cnt + 1
  | .block _ a => a.cnt + 1
def Bdy.cnt : Bdy → Nat
  | .nil => 0
  | .cons s b => s.cnt + b.cnt
end
def Bdy.snoc : Bdy → Stp → Bdy
  | .nil, s => .cons s .nil
  | .cons t b, s => .cons t (b.snoc s)
theorem Bdy.snoc_ds : ∀ (b : Bdy) (s : Stp), (b.snoc s).ds = b.ds ++ [s.d]
  | .nil, s => rfl
  | .cons t b, s => by rw [Bdy.snoc, Bdy.ds, Bdy.snoc_ds b s, Bdy.ds]; rfl
theorem Bdy.snoc_ok {rs ns : List Str} {m : Bool} {s : Stp} (hs : s.ok rs ns m) : ∀ {b : Bdy}, b.ok rs ns m → (b.snoc s).ok rs ns m
  | .nil, _ => by rw [Bdy.snoc, Bdy.ok]; exact ⟨hs, by rw [Bdy.ok]; trivial⟩
  | .cons t b, h => by
    rw [Bdy.ok] at h
    rw [Bdy.snoc, Bdy.ok]
    exact ⟨h.1, Bdy.snoc_ok hs h.2⟩
theorem Bdy.snoc_dp {k : Nat} {s : Stp} (hs : s.dp ≤ k) : ∀ {b : Bdy}, b.dp ≤ k → (b.snoc s).dp ≤ k
  | .nil, _ => by rw [Bdy.snoc, Bdy.dp, Bdy.dp]; omega
  | .cons t b, h => by
    rw [Bdy.dp] at h
    rw [Bdy.snoc, Bdy.dp]
    have := Bdy.snoc_dp (k := k) hs (b := b) (by omega)
    omega
theorem Bdy.snoc_cnt (s : Stp) : ∀ b : Bdy, (b.snoc s).cnt = b.cnt + s.cnt
  | .nil => by rw [Bdy.snoc, Bdy.cnt, Bdy.cnt]; exact Nat.add_comm _ _
  | .cons t b => by rw [Bdy.snoc, Bdy.cnt, Bdy.snoc_cnt s b, Bdy.cnt]; omega
/-- draws, steps of a drawn step, a drawn body -/
def cS : Nat → Nat
  | 0 => 4
  | d + 1 => 8 + 4 * cS d
def cC : Nat → Nat
  | 0 => 1
  | d + 1 => 1 + 4 * cC d
theorem cS_pos : ∀ d : Nat, 4 ≤ cS d
  | 0 => Nat.le_refl 4
  | d + 1 => by rw [cS]; omega
theorem cC_pos : ∀ d : Nat, 1 ≤ cC d
  | 0 => Nat.le_refl 1
  | d + 1 => by rw [cC]; omega

abbrev s_law_step_drawn : Stmt := top 30
abbrev N_law_step_drawn : List Str := ["generator", "rights", "names", "deep", "marked", "kind", "name", "right", "parts", "mark", "turn"]
theorem sc_law_step_drawn : FnScope N_law_step_drawn ["generator", "rights", "names", "deep", "marked"] (defScope s_law_step_drawn) := ⟨rfl, rfl, rfl, by decide +kernel, rfl, by decide +kernel, by decide +kernel⟩
abbrev s_law_body_drawn : Stmt := top 36
abbrev N_law_body_drawn : List Str := ["generator", "rights", "names", "deep", "marked", "most", "found", "turn"]
theorem sc_law_body_drawn : FnScope N_law_body_drawn ["generator", "rights", "names", "deep", "marked", "most"] (defScope s_law_body_drawn) := ⟨rfl, rfl, rfl, by decide +kernel, rfl, by decide +kernel, by decide +kernel⟩
section
variable {σ : L2.St} {H : Hp} {Q : VK}
theorem ifInt {i : Nat} {k a b : Int} (hv : σ[i]? = some (some (.int k))) (q : ∀ m : Int, (0 < k ∧ m = a) ∨ (¬ 0 < k ∧ m = b) → Q (.int m) H) : tIf (tTest (tOp (rI0 fun i j => .bl (decide (j < i))) (tVar i) (tC (.int 0)))) (tC (.int a)) (tC (.int b)) σ H Q := by
  refine Rd.ife (Rd.tst (Rd.op (Rd.var hv (Rd.con (Rd.i0 (Rd.bl (Rd.br (fun c => ?_) fun c => ?_)))))))
  · exact q a (.inl ⟨of_decide_eq_true c, rfl⟩)
  · exact q b (.inr ⟨of_decide_eq_false c, rfl⟩)
end
/-- what a drawn step, a drawn body is asked with -/
structure DrawIn (K : PySem.W.Frag) (W H : Hp) (g R N : Addr) (n c : Nat) (rs ns : List Str) : Prop where
  s : Same W H
  wg : W g = none
  R : SqL K W R (rs.map V.str)
  N : SqL K W N (ns.map V.str)
  r0 : 0 < rs.length
  n0 : 0 < ns.length
  r1 : rs.length ≤ 10
  n1 : ns.length ≤ 10
  c : c ≤ n
  gen : GenAt H g n
theorem DrawIn.next {K : PySem.W.Frag} {W W' H H' : Hp} {g R N : Addr} {n n' c c' : Nat} {rs ns : List Str} (h : DrawIn K W H g R N n c rs ns) (s : Same W W') (s' : Same W' H') (wg : W' g = none) (hg : GenAt H' g n') (l : c' ≤ n') : DrawIn K W' H' g R N n' c' rs ns :=
  ⟨s', wg, s.seq h.R, s.seq h.N, h.r0, h.n0, h.r1, h.n1, l, hg⟩
def GiveS (K : PySem.W.Frag) (W H : Hp) (g : Addr) (n c : Nat) (rs ns : List Str) (m : Bool) (d : Nat) (Q : VK) : Prop := ∀ (s : Stp) T W' H', s.ok rs ns m → s.dp ≤ d + 1 → s.cnt ≤ cC d → But g H H' → Grow W W' H → Same W' H' → GenAt H' g (n - c) → Dq K W' (.ref T) s.d → Q (.ref T) H'
def GiveB (K : PySem.W.Frag) (W H : Hp) (g : Addr) (n c : Nat) (rs ns : List Str) (m : Bool) (d most : Nat) (Q : VK) : Prop := ∀ (b : Bdy) T W' H', b.ok rs ns m → b.dp ≤ d + 1 → b.cnt ≤ most * cC d → But g H H' → Grow W W' H → Same W' H' → GenAt H' g (n - c) → Dq K W' (.ref T) b.d → H T = none → Q (.ref T) H'
def sp_step (K : PySem.W.Frag) (d : Nat) : Sp := fun vs H Q _ => ∃ (g R N : Addr) (m : Bool) (W : Hp) (n : Nat) (rs ns : List Str), vs = [.ref g, .ref R, .ref N, .int (d : Int), .bl m] ∧ DrawIn K W H g R N n (cS d) rs ns ∧ GiveS K W H g n (cS d) rs ns m d Q
def sp_body (K : PySem.W.Frag) (d : Nat) : Sp := fun vs H Q _ => ∃ (g R N : Addr) (m : Bool) (most : Nat) (W : Hp) (n : Nat) (rs ns : List Str), vs = [.ref g, .ref R, .ref N, .int (d : Int), .bl m, .int (most : Int)] ∧ most ≤ 10 ∧ DrawIn K W H g R N n (1 + most * cS d) rs ns ∧
  GiveB K W H g n (1 + most * cS d) rs ns m d most Q
def sp_no : Sp := fun _ _ _ _ => False
/-- the body that a step at d asks -/
def sp_in (K : PySem.W.Frag) : Nat → Sp
  | 0 => sp_no
  | d + 1 => sp_body K d
section
variable {P : Program} {w : World} {K : PySem.W.Frag} {mg : Str → Option Value} {base : Heap} {f f_r f_b f_s : Addr} {fd fd_r fd_b fd_s : FuncData}
theorem fn_no {k : Nat} {ps : List Str} : FnOk P w K mg base CX0 k f fd ps sp_no := ⟨fun _ _ _ _ h => h.elim, fun _ _ _ _ _ _ _ _ _ _ _ _ _ h => h.elim⟩
theorem put_tup {W H : Hp} {T : Addr} {xs : List V} {ds : List PyData} (s : Same W H) (e : H T = some (.tup xs)) (n : W T = none) (d : DqAll K W xs ds) : Same W (upd W T (.tup xs)) ∧ Same (upd W T (.tup xs)) H ∧ Dq K (upd W T (.tup xs)) (.ref T) (.tuple ds) :=
  ⟨same_upd n, same_put s e, .tup (.inl (.inl upd_same)) (Dq.sameAll (same_upd n) _ _ d)⟩
theorem GiveS.tup {W W3 H H3 : Hp} {g : Addr} {n n' c : Nat} {rs ns : List Str} {m : Bool} {d : Nat} {Q : VK} {s : Stp} {xs : List V} {ds : List PyData} (hQ : GiveS K W H g n c rs ns m d Q) (sd : s.d = .tuple ds) (ok : s.ok rs ns m) (dp : s.dp ≤ d + 1) (cn : s.cnt ≤ cC d)
    (b : But g H H3) (s1 : Grow W W3 H) (s2 : Same W3 H3) (hg : GenAt H3 g n') (l : n - c ≤ n') (da : DqAll K W3 xs ds) (lx : xs.length ≤ 1000 := by exact Nat.le_of_ble_eq_true rfl) : Rd.newT Q xs H3 := by
  refine mkTs (fun T H4 nT sT eT => ?_) lx
  obtain ⟨a1, a2, a3⟩ := put_tup (s2.trans sT) eT (same_none s2 nT) da
  rw [← sd] at a3
  exact hQ s T _ H4 ok dp cn (b.then sT) (s1.put (b.none (hg.ne nT) nT) (same_none s2 nT)) a2 ((hg.same sT).less l) a3
theorem orV {i j : Nat} {b c : Bool} {σ : L2.St} {H : Hp} {Q : VK} (hi : σ[i]? = some (some (.bl b))) (hj : σ[j]? = some (some (.bl c))) (q : Q (.bl (b || c)) H) : tOrV (tVar i) (tVar j) σ H Q := by
  refine ⟨_, hi, b, rfl, ?_⟩
  cases b with
  | true => exact iteT q
  | false => exact iteF ⟨_, hj, q⟩
theorem bodyIn {W H : Hp} {g R N : Addr} {n c : Nat} {rs ns : List Str} {m : Bool} {d : Nat} {Q : VK} {E : XK} (hd : 0 < d) (dr : DrawIn K W H g R N n c rs ns) (hc : 1 + 2 * cS (d - 1) ≤ n)
    (q : ∀ (b : Bdy) T W' H', b.ok rs ns m → b.dp ≤ d → b.cnt ≤ 2 * cC (d - 1) → But g H H' → Grow W W' H → Same W' H' → GenAt H' g (n - (1 + 2 * cS (d - 1))) → Dq K W' (.ref T) b.d → H T = none → Q (.ref T) H') :
    sp_in K d ([.ref g, .ref R, .ref N, .int ((d : Int) - 1), .bl m, .int 2] ++ []) H Q E := by
  cases d with
  | zero => exact absurd hd (Nat.lt_irrefl 0)
  | succ d =>
    have e : ((d + 1 : Nat) : Int) - 1 = (d : Int) := by omega
    rw [e]
    exact ⟨g, R, N, m, 2, W, n, rs, ns, rfl, by decide, dr.next (Same.refl W) dr.s dr.wg dr.gen hc, q⟩
theorem ok_step1 (d : Nat) (F : FnP K "_law_step_drawn" s_law_step_drawn f fd) (G_law_random : FnOk P w K mg base CX0 2 f_r fd_r ["generator", "bound"] sp_rnd) (g_law_random : mg "_law_random" = some (.ref f_r)) (k_law_random : PySem.W.keepIn K (.ref f_r) = true) (b_law_random : Binds K fd_r ["generator", "bound"] [])
    (G_law_body_drawn : FnOk P w K mg base CX0 (2 * d + 2) f_b fd_b ["generator", "rights", "names", "deep", "marked", "most"] (sp_in K d)) (g_law_body_drawn : mg "_law_body_drawn" = some (.ref f_b)) (k_law_body_drawn : PySem.W.keepIn K (.ref f_b) = true) (b_law_body_drawn : Binds K fd_b ["generator", "rights", "names", "deep", "marked", "most"] [])
    (T : TxtD mg) : FnOk P w K mg base CX0 (2 * d + 3) f fd ["generator", "rights", "names", "deep", "marked"] (sp_step K d) := by
  refine F.ok sc_law_step_drawn (fun vs H Q E h => ?_) (fun cdv A outer s H vs Q E hr h => ?_)
  · obtain ⟨g, R, N, m, W, n, rs, ns, rfl, _⟩ := h
    rfl
  obtain ⟨g, R, N, m, W, n, rs, ns, rfl, dr, hQ⟩ := h
  refine ⟨_, PSs.nox (pss_cons (ps_set (i := 5) sc_law_step_drawn.nd rfl (by first | exact Or.inl rfl | exact Or.inr rfl) (pe_call G_law_random (hr.mono (by omega)) rfl g_law_random k_law_random b_law_random .nil pass0 (pa_cons (pv 0) (pa_cons (pe_ifExp (pt_cmpR op_gt (pv 3) pe_int (nomark _)) pe_int pe_int) pa_nil))))
    (pss_cons (ps_par (i := 6) (j := 7) (by rfl) sc_law_step_drawn.nd rfl rfl (by decide) rfl rfl (pa_cons (pe_ix (show IxR _ (rIxL K) from ix_list) (pv 2) (pe_call G_law_random (hr.mono (by omega)) rfl g_law_random k_law_random b_law_random .nil pass0 (pa_cons (pv 0) (pa_cons (pe_callB (show CallR _ (.builtin "len") (Rd.rLn K) from Rd.c_len) (by rfl) T.m_len boot_len (pa_cons (pv 2) pa_nil)) pa_nil))) (fun _ _ => rfl)) (pa_cons (pe_ix (show IxR _ (rIxL K) from ix_list) (pv 1) (pe_call G_law_random (hr.mono (by omega)) rfl g_law_random k_law_random b_law_random .nil pass0 (pa_cons (pv 0) (pa_cons (pe_callB (show CallR _ (.builtin "len") (Rd.rLn K) from Rd.c_len) (by rfl) T.m_len boot_len (pa_cons (pv 1) pa_nil)) pa_nil))) (fun _ _ => rfl)) pa_nil)) (by rfl))
    (pss_cons (ps_if (pt_cmpR op_lt (pv 5) pe_int (nomark _)) (pss_one (ps_ret (pe_tup (pa_cons pe_str (pa_cons (pv 6) pa_nil))))) pss_nil)
    (pss_cons (ps_if (PW.pt (pw_or (pt_cmpR op_lt (pv 5) pe_int (nomark _)) (pw_or1 (PW.pt (pw_and (pt_cmpR op_eq (pv 5) pe_int (nomark _)) (pw_and1 (pt_val (pv 4)))))))) (pss_one (ps_ret (pe_tup (pa_cons pe_str (pa_cons (pv 7) pa_nil))))) pss_nil)
    (pss_cons (ps_if (pt_cmpR op_eq (pv 5) pe_int (nomark _)) (pss_one (ps_ret (pe_ix (show IxR _ (rIxL K) from ix_list) (pe_lst (pa_cons (pe_tup (pa_cons pe_str (pa_cons (pv 6) pa_nil))) (pa_cons (pe_tup (pa_cons pe_str pa_nil)) pa_nil))) (pe_call G_law_random (hr.mono (by omega)) rfl g_law_random k_law_random b_law_random .nil pass0 (pa_cons (pv 0) (pa_cons pe_int pa_nil))) (fun _ _ => rfl)))) pss_nil)
    (pss_cons (ps_if (pt_cmpR op_eq (pv 5) pe_int (nomark _)) (pss_cons (ps_setLc (i := 8) (own := [("turn", 10)]) (g := gName 10) rfl sc_law_step_drawn.nd rfl rfl (sw_true rfl rfl rfl (by decide +kernel)) (pi_range1 (by rfl) T.m_range (pa_cons pe_int pa_nil)) (blkOk_by (N := N_law_step_drawn) (sc := defScope s_law_step_drawn) (by decide +kernel)) (fun _ _ _ _ _ => pg_name (i := 10) sc_law_step_drawn.nd rfl (Or.inl rfl)) (fun _ _ _ _ _ => pts_nil) (fun _ _ _ _ _ => (pe_call G_law_body_drawn (hr.mono (by omega)) rfl g_law_body_drawn k_law_body_drawn b_law_body_drawn .nil pass0 (pa_cons (pv 0) (pa_cons (pv 1) (pa_cons (pv 2) (pa_cons (pe_op op_sub (pv 3) pe_int) (pa_cons (pv 4) (pa_cons pe_int pa_nil)))))))))
    (pss_one (ps_ret (pe_tup (pa_cons pe_str (pa_cons (pe_ix (show IxR _ (rIxL K) from ix_list) (pv 8) pe_int (fun _ _ => rfl)) (pa_cons (pe_ix (show IxR _ (rIxL K) from ix_list) (pv 8) pe_int (fun _ _ => rfl)) pa_nil))))))) pss_nil)
    (pss_cons (ps_if (pt_cmpR op_eq (pv 5) pe_int (nomark _)) (pss_one (ps_ret (pe_tup (pa_cons pe_str (pa_cons (pe_call G_law_body_drawn (hr.mono (by omega)) rfl g_law_body_drawn k_law_body_drawn b_law_body_drawn .nil pass0 (pa_cons (pv 0) (pa_cons (pv 1) (pa_cons (pv 2) (pa_cons (pe_op op_sub (pv 3) pe_int) (pa_cons (pv 4) (pa_cons pe_int pa_nil))))))) pa_nil))))) pss_nil)
    (pss_cons (ps_set (i := 9) sc_law_step_drawn.nd rfl (by first | exact Or.inl rfl | exact Or.inr rfl) (pe_cmpR op_gt (pe_call G_law_random (hr.mono (by omega)) rfl g_law_random k_law_random b_law_random .nil pass0 (pa_cons (pv 0) (pa_cons pe_int pa_nil))) pe_int (nomark _)))
    (pss_one (ps_ret (pe_tup (pa_cons pe_str (pa_cons (pv 9) (pa_cons (pe_call G_law_body_drawn (hr.mono (by omega)) rfl g_law_body_drawn k_law_body_drawn b_law_body_drawn .nil pass0 (pa_cons (pv 0) (pa_cons (pv 1) (pa_cons (pv 2) (pa_cons (pe_op op_sub (pv 3) pe_int) (pa_cons (pe_or (pv 4) (pe_one (pv 9))) (pa_cons pe_int pa_nil))))))) pa_nil)))))))))))))), ?_⟩
  refine Rd.seq (Rd.asg (Rd.call (Rd.cons (Rd.var rfl (Rd.cons (ifInt rfl fun bd hbd => ?_))))))
  have p4 := cS_pos d
  have dc := dr.c
  refine Rd.nil (rnd dr.gen (by omega) (fun r H1 hr1 b1 g1 => ?_) (by omega) (by omega))
  have s1 := b1.same dr.s dr.wg
  walk_at "rd"
  refine Rd.lnL (s1.seq dr.N) ?_
  rw [List.length_map]
  walk_at "rd"
  refine rnd g1 (by omega) (fun a H2 ha b2 g2 => ?_) (by have := dr.n0; omega) (by have := dr.n1; omega)
  have s2 := b2.same s1 dr.wg
  obtain ⟨nm, hnm⟩ : ∃ nm, ns[a]? = some nm := ⟨_, List.getElem?_eq_getElem (by omega)⟩
  refine Rd.ixL (v := .str nm) (s2.seq dr.N) (atI_nat (by rw [List.getElem?_map, hnm]; rfl)) ?_
  walk_at "rd"
  refine Rd.lnL (s2.seq dr.R) ?_
  rw [List.length_map]
  walk_at "rd"
  refine rnd g2 (by omega) (fun a3 H3 ha3 b3 g3 => ?_) (by have := dr.r0; omega) (by have := dr.r1; omega)
  have s3 := b3.same s2 dr.wg
  obtain ⟨rt, hrt⟩ : ∃ rt, rs[a3]? = some rt := ⟨_, List.getElem?_eq_getElem (by omega)⟩
  refine Rd.ixL (v := .str rt) (s3.seq dr.R) (atI_nat (by rw [List.getElem?_map, hrt]; rfl)) ?_
  have inN : nm ∈ ns := List.mem_of_getElem? hnm
  have inR : rt ∈ rs := List.mem_of_getElem? hrt
  have b13 : But g H H3 := (b1.trans b2).trans b3
  walk_at "rd"
  refine Rd.br (fun c3 => ?_) fun c3 => ?_
  · walk_at "rd"
    exact hQ.tup (s := .call nm) rfl (by rw [Stp.ok]; exact inN) (by rw [Stp.dp]; omega) (by rw [Stp.cnt]; exact cC_pos d) b13 Grow.refl s3 g3 (by omega) (.cons (.str _) (.cons (.str _) .nil))
  walk_at "rd"
  refine Rd.br (fun c6 => ?_) fun c6 => ?_
  · refine Rd.brT rfl ?_
    walk_at "rd"
    exact hQ.tup (s := .check rt) rfl (by rw [Stp.ok]; exact inR) (by rw [Stp.dp]; omega) (by rw [Stp.cnt]; exact cC_pos d) b13 Grow.refl s3 g3 (by omega) (.cons (.str _) (.cons (.str _) .nil))
  have k3 : ¬ (r : Int) < 3 := of_decide_eq_false c3
  have k6 : ¬ (r : Int) < 6 := of_decide_eq_false c6
  walk_at "rd"
  refine Rd.eq_ rfl ?_
  refine Rd.bl ?_
  have check : Rd.newT Q [V.str "check", V.str rt] H3 := hQ.tup (s := .check rt) rfl (by rw [Stp.ok]; exact inR) (by rw [Stp.dp]; omega) (by rw [Stp.cnt]; exact cC_pos d) b13 Grow.refl s3 g3 (by omega) (.cons (.str _) (.cons (.str _) .nil))
  refine Rd.br (fun e6 => ?_) fun e6 => ?_
  · walk_at "rd"
    refine Rd.br (fun em => ?_) fun em => ?_
    · walk_at "rd"
      exact check
    walk_at "rd"
    refine Rd.eq_ rfl ?_
    refine Rd.bl (Rd.brT e6 ?_)
    walk_at "rd"
    refine mkTs fun T1 H4 n4 s4 e4 => ?_
    walk_at "rd"
    refine mkTs fun T2 H5 n5 s5 e5 => ?_
    walk_at "rd"
    refine mkLs fun L6 H6 n6 s6 e6 => ?_
    walk_at "rd"
    have g6 := ((g3.same s4).same s5).same s6
    refine rnd g6 (by omega) (fun a7 H7 ha7 b7 g7 => ?_)
    have t1g : T1 ≠ g := g3.ne n4
    have t2g : T2 ≠ g := (g3.same s4).ne n5
    have lg : L6 ≠ g := ((g3.same s4).same s5).ne n6
    have W1 : W T1 = none := same_none s3 n4
    have W2 : W T2 = none := same_none (s3.trans s4) n5
    obtain ⟨u1, u2, u3⟩ := put_tup (K := K) (b7.same (((s3.trans s4).trans s5).trans s6) dr.wg) (b7 _ _ t1g (s6 _ _ (s5 _ _ e4))) W1 (ds := [.str "tail", .str nm]) (.cons (.str _) (.cons (.str _) .nil))
    obtain ⟨v1, v2, v3⟩ := put_tup (K := K) (b7.same (((s3.trans s4).trans s5).trans s6) dr.wg) (b7 _ _ t2g (s6 _ _ e5)) W2 (ds := [.str "back"]) (.cons (.str _) .nil)
    have bf : But g H H7 := (b13.then ((s4.trans s5).trans s6)).trans b7
    have ha : a7 < 2 := by omega
    match a7, ha with
    | 0, _ =>
      refine Rd.ixL (v := .ref T1) (.inl (.inl (b7 _ _ lg e6))) rfl ?_
      exact hQ (.tail nm) T1 _ H7 (by rw [Stp.ok]; exact ⟨inN, em⟩) (by rw [Stp.dp]; omega) (by rw [Stp.cnt]; exact cC_pos d) bf (Grow.refl.put (b13.none t1g n4) W1) u2 (g7.less (by omega)) u3
    | 1, _ =>
      refine Rd.ixL (v := .ref T2) (.inl (.inl (b7 _ _ lg e6))) rfl ?_
      exact hQ .back T2 _ H7 (by rw [Stp.ok]; trivial) (by rw [Stp.dp]; omega) (by rw [Stp.cnt]; exact cC_pos d) bf (Grow.refl.put ((b13.then s4).none t2g n5) W2) v2 (g7.less (by omega)) v3
  refine Rd.brF rfl ?_
  walk_at "rd"
  refine Rd.eq_ rfl (Rd.bl (Rd.brF e6 ?_))
  have n6 : r ≠ 6 := fun z => by
    rw [z] at e6
    exact absurd (of_decide_eq_false e6) (fun h => h rfl)
  have hd : 0 < d := by omega
  have cd : cS d = 8 + 4 * cS (d - 1) := by
    obtain ⟨d', rfl⟩ : ∃ d', d = d' + 1 := ⟨d - 1, by omega⟩
    rw [cS]; rfl
  have cc : cC d = 1 + 4 * cC (d - 1) := by
    obtain ⟨d', rfl⟩ : ∃ d', d = d' + 1 := ⟨d - 1, by omega⟩
    rw [cC]; rfl
  have dr3 : DrawIn K W H3 g R N (n - 1 - 1 - 1) 0 rs ns := dr.next (Same.refl W) s3 dr.wg g3 (Nat.zero_le _)
  walk_at "rd"
  refine Rd.eq_ rfl (Rd.bl (Rd.br (fun e7 => ?_) fun e7 => ?_))
  · walk_at "rd"
    refine Rd.i1 (by decide) (by decide) fun D hD => ?_
    have gD : D ≠ g := g3.ne hD
    have WD : W D = none := same_none s3 hD
    refine Rd.byCR (fun i H' => ∃ (W' : Hp) (bs : List Bdy) (items : List V), Grow W W' H3 ∧ Same W' H' ∧ W' D = none ∧ But g H3 H' ∧ H' D = some (.lst items) ∧ DqAll K W' items (bs.map Bdy.d) ∧ bs.length = i ∧
        (∀ b ∈ bs, b.ok rs ns m ∧ b.dp ≤ d ∧ b.cnt ≤ 2 * cC (d - 1)) ∧ GenAt H' g (n - 3 - i * (1 + 2 * cS (d - 1))))
      ⟨W, [], [], Grow.refl, s3.trans (same_upd hD), WD, But.of (same_upd hD), upd_same, .nil, rfl, (fun b z => nomatch z), (g3.same (same_upd hD)).less (by omega)⟩ (fun i H' hi h => ?_) (fun H' h => ?_)
    · obtain ⟨W', bs, items, a1, a2, a4, a5, a6, a7, a8, a9, a10⟩ := h
      have hi2 : i ≤ 1 := by
        have : i < 2 := hi
        omega
      have im : i * (1 + 2 * cS (d - 1)) ≤ 1 + 2 * cS (d - 1) := by
        have := Nat.mul_le_mul_right (1 + 2 * cS (d - 1)) hi2
        omega
      have a3 : W' g = none := a1.gen g3 dr.wg
      refine Rd.turn1 rfl ?_
      walk_at "rd"
      refine bodyIn hd (dr3.next (c' := 0) a1.s a2 a3 a10 (Nat.zero_le _)) (by omega) fun b T W5 H5 q1 q2 q3 q4 q5 q6 q8 q9 q10 => ?_
      have DT : D ≠ T := fun z => by rw [← z, a6] at q10; cases q10
      have W5D : W5 D = none := q5.n D _ a6 a4
      have li : items.length < 1000 := by rw [dqAll_len a7, List.length_map, a8]; omega
      refine Rd.acc (q4 _ _ gD a6) li ⟨W5, bs ++ [b], items ++ [.ref T], a1.trans q5 (a5.alive a10), ?_, W5D, ?_, upd_same, ?_, by rw [List.length_append, a8]; rfl, ?_, ?_⟩
      · intro x o e
        exact (upd_ne (fun z => by rw [z, W5D] at e; cases e)).trans (q6 _ _ e)
      · intro x o ne e
        exact (upd_ne (ne_of_none e hD)).trans (q4 _ _ ne (a5 _ _ ne e))
      · rw [List.map_append]
        exact dqAll_app (.cons q9 .nil) (Dq.sameAll q5.s _ _ a7)
      · intro y hy
        rcases List.mem_append.mp hy with hy | hy
        · exact a9 y hy
        · cases List.mem_singleton.mp hy
          exact ⟨q1, q2, q3⟩
      · obtain ⟨x, y, z, e, r⟩ := q8
        refine ⟨x, y, z, (upd_ne (Ne.symm gD)).trans e, r.1, r.2.1, r.2.2.1, r.2.2.2.1, ?_⟩
        have := r.2.2.2.2
        have em : (i + 1) * (1 + 2 * cS (d - 1)) = i * (1 + 2 * cS (d - 1)) + (1 + 2 * cS (d - 1)) := Nat.succ_mul _ _
        rw [em]
        omega
    · obtain ⟨W', bs, items, a1, a2, a4, a5, a6, a7, a8, a9, a10⟩ := h
      have a8 : bs.length = 2 := a8
      match bs, a8, a9, a7 with
      | [x, y], _, a9, .cons (v := v1) h1 (.cons (v := v2) h2 .nil) =>
        obtain ⟨x1, x2, x3⟩ := a9 x (List.mem_cons_self)
        obtain ⟨y1, y2, y3⟩ := a9 y (List.mem_cons_of_mem _ List.mem_cons_self)
        walk_at "rd"
        exact hQ.tup (s := .either x y) rfl (by rw [Stp.ok]; exact ⟨x1, y1⟩) (by rw [Stp.dp]; omega) (by rw [Stp.cnt]; omega) (b13.trans a5) (Grow.refl.trans a1 (b13.alive g3)) a2 a10 (by
          have e2 : Int.toNat 2 = 2 := rfl
          rw [e2]
          omega) (.cons (.str _) (.cons h1 (.cons h2 .nil)))
  walk_at "rd"
  refine Rd.eq_ rfl (Rd.bl (Rd.br (fun e8 => ?_) fun e8 => ?_))
  · walk_at "rd"
    refine bodyIn hd dr3 (by omega) fun b T W' H' q1 q2 q3 q4 q5 q6 q8 q9 _ => ?_
    walk_at "rd"
    exact hQ.tup (s := .loop b) rfl (by rw [Stp.ok]; exact q1) (by rw [Stp.dp]; omega) (by rw [Stp.cnt]; omega) (b13.trans q4) (Grow.refl.trans q5 (b13.alive g3)) q6 q8 (by omega) (.cons (.str _) (.cons q9 .nil))
  walk_at "rd"
  refine rnd g3 (by omega) (fun a4 H4 ha4 b4 g4 => ?_)
  have dr4 : DrawIn K W H4 g R N (n - 1 - 1 - 1 - 1) 0 rs ns := dr.next (Same.refl W) (b4.same s3 dr.wg) dr.wg g4 (Nat.zero_le _)
  walk_at "rd"
  refine orV (b := m) rfl (c := decide (0 < (a4 : Int))) rfl ?_
  walk_at "rd"
  refine bodyIn hd dr4 (by omega) fun b T W' H' q1 q2 q3 q4 q5 q6 q8 q9 _ => ?_
  walk_at "rd"
  exact hQ.tup (s := .block (decide (0 < (a4 : Int))) b) rfl (by rw [Stp.ok]; exact q1) (by rw [Stp.dp]; omega) (by rw [Stp.cnt]; omega) ((b13.trans b4).trans q4) (Grow.refl.trans q5 ((b13.trans b4).alive g4)) q6 q8 (by omega) (.cons (.str _) (.cons (.bl _) (.cons q9 .nil)))
theorem ok_body1 (d : Nat) (F : FnP K "_law_body_drawn" s_law_body_drawn f fd) (G_law_random : FnOk P w K mg base CX0 2 f_r fd_r ["generator", "bound"] sp_rnd) (g_law_random : mg "_law_random" = some (.ref f_r)) (k_law_random : PySem.W.keepIn K (.ref f_r) = true) (b_law_random : Binds K fd_r ["generator", "bound"] [])
    (G_law_step_drawn : FnOk P w K mg base CX0 (2 * d + 3) f_s fd_s ["generator", "rights", "names", "deep", "marked"] (sp_step K d)) (g_law_step_drawn : mg "_law_step_drawn" = some (.ref f_s)) (k_law_step_drawn : PySem.W.keepIn K (.ref f_s) = true) (b_law_step_drawn : Binds K fd_s ["generator", "rights", "names", "deep", "marked"] [])
    (T : TxtD mg) : FnOk P w K mg base CX0 (2 * d + 4) f fd ["generator", "rights", "names", "deep", "marked", "most"] (sp_body K d) := by
  refine F.ok sc_law_body_drawn (fun vs H Q E h => ?_) (fun cdv A outer s H vs Q E hr h => ?_)
  · obtain ⟨g, R, N, m, most, W, n, rs, ns, rfl, _⟩ := h
    rfl
  obtain ⟨g, R, N, m, most, W, n, rs, ns, rfl, hm, dr, hQ⟩ := h
  refine ⟨_, PSs.nox (pss_cons (ps_set (i := 6) sc_law_body_drawn.nd rfl (by first | exact Or.inl rfl | exact Or.inr rfl) (pe_lst pa_nil))
    (pss_cons (ps_for PassesOwn.never rfl (pi_range1 (by rfl) T.m_range (pa_cons (pe_call G_law_random (hr.mono (by omega)) rfl g_law_random k_law_random b_law_random .nil pass0 (pa_cons (pv 0) (pa_cons (pe_op op_add (pv 5) pe_int) pa_nil))) pa_nil)) (pg_name (i := 7) sc_law_body_drawn.nd rfl (by first | exact Or.inl rfl | exact Or.inr rfl)) (pss_one (ps_expr (pe_bm PySem.F.plainAttrs_list PySem.F.slot_list_append PySem.F.type_list_append mt_append (pv 6) (pa_cons (pe_call G_law_step_drawn (hr.mono (by omega)) rfl g_law_step_drawn k_law_step_drawn b_law_step_drawn .nil pass0 (pa_cons (pv 0) (pa_cons (pv 1) (pa_cons (pv 2) (pa_cons (pv 3) (pa_cons (pv 4) pa_nil)))))) pa_nil)))))
    (pss_one (ps_ret (pv 6))))), ?_⟩
  have p4 := cS_pos d
  have dc := dr.c
  walk_at "rd"
  refine mkLs fun F0 H1 nF s1 eF => ?_
  walk_at "rd"
  refine rnd (dr.gen.same s1) (by omega) (fun r H2 hr b2 g2 => ?_) (by omega) (by omega)
  have gF : F0 ≠ g := dr.gen.ne nF
  have b02 : But g H H2 := (But.of s1).trans b2
  walk_at "rd"
  refine Rd.i1 (by omega) (by omega) ?_
  rw [show ((r : Int)).toNat = r from Int.toNat_natCast r]
  refine Rd.byR (fun i σ H' => ∃ (W' : Hp) (b : Bdy) (items : List V) (o7 : Option V), σ = [some (.ref g), some (.ref R), some (.ref N), some (.int (d : Int)), some (.bl m), some (.int (most : Int)), some (.ref F0), o7] ∧ Grow W W' H ∧ Same W' H' ∧ W' F0 = none ∧ But g H H' ∧ H' F0 = some (.lst items) ∧
      DqAll K W' items b.ds ∧ items.length = i ∧ b.ok rs ns m ∧ b.dp ≤ d + 1 ∧ b.cnt ≤ i * cC d ∧ GenAt H' g (n - 1 - i * cS d))
    ⟨W, .nil, [], none, rfl, Grow.refl, b02.same dr.s dr.wg, same_none dr.s nF, b02, b2 _ _ gF eF, .nil, rfl, by rw [Bdy.ok]; trivial, by rw [Bdy.dp]; omega, by rw [Bdy.cnt]; omega, g2.less (by omega)⟩ (fun i σ H' hi h => ?_) (fun σ H' h => ?_)
  · obtain ⟨W', b, items, o7, rfl, a1, a2, a4, a5, a6, a7, a8, a9, a10, a11, a12⟩ := h
    have im : (i + 1) * cS d ≤ most * cS d := Nat.mul_le_mul_right _ (by omega)
    have em : (i + 1) * cS d = i * cS d + cS d := Nat.succ_mul _ _
    have ec : (i + 1) * cC d = i * cC d + cC d := Nat.succ_mul _ _
    walk_at "rd"
    refine Rd.app a6 ?_
    walk_at "rd"
    refine ⟨g, R, N, m, W', _, rs, ns, rfl, dr.next (c' := cS d) a1.s a2 (a1.gen dr.gen dr.wg) a12 (by omega), fun s T W5 H5 q1 q2 q3 q4 q5 q6 q8 q9 => ?_⟩
    walk_at "rd"
    have W5F : W5 F0 = none := q5.n F0 _ a6 a4
    refine Rd.appTo (q4 _ _ gF a6) (by omega) ?_
    refine ⟨W5, b.snoc s, items ++ [.ref T], _, rfl, a1.trans q5 (a5.alive a12), ?_, W5F, ?_, upd_same, ?_, by rw [List.length_append, a8]; rfl, Bdy.snoc_ok q1 a9, Bdy.snoc_dp q2 a10, by rw [Bdy.snoc_cnt, ec]; omega, ?_⟩
    · intro x o e
      exact (upd_ne (fun z => by rw [z, W5F] at e; cases e)).trans (q6 _ _ e)
    · intro x o ne e
      exact (upd_ne (ne_of_none e nF)).trans (q4 _ _ ne (a5 _ _ ne e))
    · rw [Bdy.snoc_ds]
      exact dqAll_app (.cons q9 .nil) (Dq.sameAll q5.s _ _ a7)
    · obtain ⟨x, y, z, e, r⟩ := q8
      refine ⟨x, y, z, (upd_ne (Ne.symm gF)).trans e, r.1, r.2.1, r.2.2.1, r.2.2.2.1, ?_⟩
      have := r.2.2.2.2
      rw [em]
      omega
  · obtain ⟨W', b, items, o7, rfl, a1, a2, a4, a5, a6, a7, a8, a9, a10, a11, a12⟩ := h
    walk_at "rd"
    have im : r * cS d ≤ most * cS d := Nat.mul_le_mul_right _ (by omega)
    have ic : r * cC d ≤ most * cC d := Nat.mul_le_mul_right _ (by omega)
    exact hQ b F0 (upd W' F0 (.lst items)) H' a9 a10 (by omega) a5 (a1.put nF a4) (same_put a2 a6) (a12.less (by omega)) (.lst (.inl (.inl upd_same)) (Dq.sameAll (same_upd a4) _ _ a7)) nF
end

end Bs
set_option Elab.async false
set_option linter.all false
set_option maxRecDepth 100000
set_option maxHeartbeats 4000000
/-! bodies counted, copied -/
namespace Bs
open PySem PySem.Spec PyProof.Rows L2 Gd Er
local macro_rules | `(tactic| walk_at "rdc") => `(tactic| (first
  | assumption | exact Or.inl ⟨by omega, by omega⟩ | exact Or.inr ⟨by omega, by omega⟩ | exact Or.inl ⟨by decide, by decide⟩ | exact Or.inr ⟨by decide, by decide⟩
  | (show (0 : Int) < _; omega) | (show (0 : Int) < _; decide) | decide | omega | exact ⟨by decide, by decide, by decide⟩ | exact ⟨by decide, by decide +kernel⟩ | decide +kernel))
local macro_rules | `(tactic| walk_at "rdh") => `(tactic| (first | assumption | exact upd_same))
local macro_rules | `(tactic| walk_at "rd1") => `(tactic| (first
  | (with_reducible refine Rd.var rfl ?_) | (with_reducible refine Rd.con ?_) | (with_reducible refine Rd.op ?_) | (with_reducible refine Rd.un ?_) | (with_reducible refine Rd.i0 ?_) | (with_reducible refine Rd.iu ?_)
  | (with_reducible refine Rd.nil ?_) | (with_reducible refine Rd.cons ?_) | (with_reducible refine Rd.cb ?_) | (with_reducible refine Rd.asg ?_) | (with_reducible refine Rd.name ?_) | (with_reducible refine Rd.sub ?_) | (with_reducible refine Rd.rev ?_) | (with_reducible refine Rd.drop ?_) | (with_reducible refine Rd.bm ?_) | (with_reducible refine Rd.par ?_) | (with_reducible refine Rd.p2 ?_) | (with_reducible refine Rd.sl ?_) | (with_reducible refine Rd.noPart ?_) | (with_reducible refine Rd.part ?_) | (with_reducible refine Rd.int_ ?_) | (with_reducible refine Rd.seq ?_)
  | (with_reducible refine Rd.ret ?_) | (with_reducible refine Rd.retN ?_) | (with_reducible refine Rd.nxt ?_) | (with_reducible refine Rd.tst ?_) | (with_reducible refine Rd.tb_ ?_) | (with_reducible refine Rd.tnot ?_)
  | (with_reducible refine Rd.tor ?_) | (with_reducible refine Rd.tand ?_) | (with_reducible refine Rd.ifs ?_) | (with_reducible refine Rd.ife ?_) | (with_reducible refine Rd.lst ?_) | (with_reducible refine Rd.tup ?_)
  | (with_reducible refine Rd.int1 ?_) | (with_reducible refine Rd.bl ?_) | (with_reducible refine Rd.call ?_)
  | (with_reducible refine Rd.mx ?_) | (with_reducible refine Rd.bits ?_) | (with_reducible refine Rd.forR ?_) | (with_reducible refine Rd.forL ?_) | (with_reducible refine Rd.lcR ?_) | (with_reducible refine Rd.lcL ?_) | (with_reducible refine Rd.lcT ?_) | (with_reducible refine Rd.chain ?_) | (with_reducible refine Rd.notv ?_) | (with_reducible refine Rd.forS ?_) | (with_reducible refine Rd.lcS ?_) | (with_reducible refine Rd.str_ ?_) | (with_reducible refine Rd.forE ?_) | (with_reducible refine Rd.lcI ?_) | (with_reducible refine Rd.tgt ?_) | (with_reducible refine Rd.gcons ?_) | (with_reducible refine Rd.gnil ?_) | (with_reducible refine Rd.fld ?_) | (with_reducible refine Rd.sfld ?_) | (with_reducible refine Rd.meth ?_) | (with_reducible refine Rd.forT ?_)
  | ((with_reducible refine' Rd.ixLT ?rh ?ra ?_); (case rh => walk_at "rdh"); (case ra => rfl))
  | ((with_reducible refine' Rd.setL ?rh ?ra ?_); (case rh => walk_at "rdh"); (case ra => rfl))
  | ((with_reducible refine Rd.ic ?rc ?_); (case rc => walk_at "rdc"))))
local macro_rules | `(tactic| walk_at "rd") => `(tactic| (repeat (walk_at "rd1")))


/-! ### the parts of a step -/
theorem ok_draw {P : Program} {w : World} {K : PySem.W.Frag} {mg : Str → Option Value} {base : Heap} {f_r f_b f_s : Addr} {fd_r fd_b fd_s : FuncData} (F_s : FnP K "_law_step_drawn" s_law_step_drawn f_s fd_s) (F_b : FnP K "_law_body_drawn" s_law_body_drawn f_b fd_b)
    (G_law_random : FnOk P w K mg base CX0 2 f_r fd_r ["generator", "bound"] sp_rnd) (g_law_random : mg "_law_random" = some (.ref f_r)) (k_law_random : PySem.W.keepIn K (.ref f_r) = true) (b_law_random : Binds K fd_r ["generator", "bound"] [])
    (g_law_step_drawn : mg "_law_step_drawn" = some (.ref f_s)) (g_law_body_drawn : mg "_law_body_drawn" = some (.ref f_b)) (T : TxtD mg) : ∀ d : Nat, FnOk P w K mg base CX0 (2 * d + 3) f_s fd_s ["generator", "rights", "names", "deep", "marked"] (sp_step K d) ∧ FnOk P w K mg base CX0 (2 * d + 4) f_b fd_b ["generator", "rights", "names", "deep", "marked", "most"] (sp_body K d) := by
  have b_s : Binds K fd_s ["generator", "rights", "names", "deep", "marked"] [] := F_s.bindsN fun _ _ _ _ _ _ us hl => match us, hl with | [_, _, _, _, _], _ => rfl
  have b_b : Binds K fd_b ["generator", "rights", "names", "deep", "marked", "most"] [] := F_b.bindsN fun _ _ _ _ _ _ us hl => match us, hl with | [_, _, _, _, _, _], _ => rfl
  have step : ∀ d, FnOk P w K mg base CX0 (2 * d + 2) f_b fd_b ["generator", "rights", "names", "deep", "marked", "most"] (sp_in K d) → FnOk P w K mg base CX0 (2 * d + 3) f_s fd_s ["generator", "rights", "names", "deep", "marked"] (sp_step K d) ∧ FnOk P w K mg base CX0 (2 * d + 4) f_b fd_b ["generator", "rights", "names", "deep", "marked", "most"] (sp_body K d) := fun d h => by
    have a := ok_step1 d F_s G_law_random g_law_random k_law_random b_law_random h g_law_body_drawn F_b.kp b_b T
    exact ⟨a, ok_body1 d F_b G_law_random g_law_random k_law_random b_law_random a g_law_step_drawn F_s.kp b_s T⟩
  intro d
  induction d with
  | zero => exact step 0 fn_no
  | succ d ih => exact step (d + 1) ih.2
inductive Prt where
  | dat (d : PyData)
  | bod (b : Bdy)
def Prt.d : Prt → PyData
  | .dat d => d
  | .bod b => b.d
def Prt.b? : Prt → Option Bdy
  | .dat _ => none
  | .bod b => some b
def Stp.ps : Stp → List Prt
  | .call n => [.dat (.str "call"), .dat (.str n)]
  | .check r => [.dat (.str "check"), .dat (.str r)]
  | .tail n => [.dat (.str "tail"), .dat (.str n)]
  | .back => [.dat (.str "back")]
  | .either a b => [.dat (.str "either"), .bod a, .bod b]
  | .loop a => [.dat (.str "loop"), .bod a]
  | .block m a => [.dat (.str "block"), .dat (.bool m), .bod a]
theorem ps_d (s : Stp) : s.d = .tuple (s.ps.map Prt.d) := by
  cases s <;> (rw [Stp.d]; rfl)
theorem ps_cnt (s : Stp) : s.cnt = 1 + ((s.ps.filterMap Prt.b?).map Bdy.cnt).sum := by
  cases s with
  | call n => rfl
  | check n => rfl
  | tail n => rfl
  | back => rfl
  | either a b =>
    show a.cnt + b.cnt + 1 = 1 + (a.cnt + (b.cnt + 0))
    omega
  | loop a =>
    show a.cnt + 1 = 1 + (a.cnt + 0)
    omega
  | block m a =>
    show a.cnt + 1 = 1 + (a.cnt + 0)
    omega
theorem ps_dp {s : Stp} {b : Bdy} (h : Prt.bod b ∈ s.ps) : b.dp + 1 ≤ s.dp := by
  cases s <;> (simp [Stp.ps] at h) <;> (rw [Stp.dp])
  · rcases h with rfl | rfl <;> omega
  · subst h; omega
  · subst h; omega
/-- the type's name -/
def tyN : PyData → String
  | .none => "NoneType"
  | .bool _ => "bool"
  | .int _ => "int"
  | .str _ => "str"
  | .list _ => "list"
  | .tuple _ => "tuple"
  | .dict _ => "dict"
theorem ps_flat {s : Stp} {d : PyData} (h : Prt.dat d ∈ s.ps) : tyN d = "str" ∨ tyN d = "bool" := by
  cases s <;> (simp [Stp.ps] at h) <;> (try rcases h with rfl | rfl) <;> (try subst h) <;> simp [tyN]
theorem ps_len (s : Stp) : s.ps.length ≤ 3 := by cases s <;> exact Nat.le_of_ble_eq_true rfl
section
variable {K : PySem.W.Frag} {H : Hp} {Q : VK} {x : V} {d : PyData} {c : String} {b : Bool}
theorem ty_of (h : Dq K H x d) : TyX K H x (.type (tyN d)) := by
  cases h with
  | non => exact .base .non
  | bl b => exact .base (.bl b)
  | int i => exact .base (.int i)
  | str x => exact .base (.str x)
  | lst hs _ =>
    rcases hs with (hs | ⟨o, hs⟩) | ⟨o, its, n, hk, hc, _⟩
    · exact .base (.lst hs)
    · exact .base (.frz hs)
    · exact .kList hk hc
  | tup hs _ =>
    rcases hs with (hs | ⟨o, hs⟩) | ⟨o, its, n, hk, hc, _⟩
    · exact .base (.tup hs)
    · exact .fTuple hs
    · exact .kTuple hk hc
  | dct hs _ => exact .base (.dK hs)
theorem isiD (h : Dq K H x d) (k : kitB (tyN d) c = some b) (q : Q (.bl b) H) : rIsi K [x, .ty c] H Q := ⟨x, _, _, _, b, rfl, .ty _, ty_of h, kit_ty k, q⟩
theorem isiF (h : Dq K H x d) (t : tyN d = "str" ∨ tyN d = "bool") (q : Q (.bl false) H) : rIsi K [x, .ty "list"] H Q := by
  rcases t with t | t
  · exact isiD h (by rw [t]; decide +kernel) q
  · exact isiD h (by rw [t]; decide +kernel) q
theorem isiL {ds : List PyData} (h : Dq K H x (.list ds)) (q : Q (.bl true) H) : rIsi K [x, .ty "list"] H Q := isiD h (show kitB "list" "list" = some true by decide +kernel) q
theorem tup_inv {ds : List PyData} (h : Dq K H x (.tuple ds)) : ∃ a xs, x = .ref a ∧ SqT K H a xs ∧ DqAll K H xs ds := by
  cases h with
  | tup h1 h2 => exact ⟨_, _, rfl, h1, h2⟩
theorem lst_inv {ds : List PyData} (h : Dq K H x (.list ds)) : ∃ a xs, x = .ref a ∧ SqL K H a xs ∧ DqAll K H xs ds := by
  cases h with
  | lst h1 h2 => exact ⟨_, _, rfl, h1, h2⟩
end
def Bdy.list : Bdy → List Stp
  | .nil => []
  | .cons s b => s :: b.list
theorem bdy_ds : ∀ b : Bdy, b.ds = b.list.map Stp.d
  | .nil => by rw [Bdy.ds]; rfl
  | .cons s b => by rw [Bdy.ds, Bdy.list, List.map_cons, bdy_ds b]
theorem bdy_cnt : ∀ b : Bdy, b.cnt = (b.list.map Stp.cnt).sum
  | .nil => by rw [Bdy.cnt]; rfl
  | .cons s b => by rw [Bdy.cnt, Bdy.list, List.map_cons, List.sum_cons, bdy_cnt b]
theorem bdy_dp : ∀ {b : Bdy} {s : Stp}, s ∈ b.list → s.dp ≤ b.dp
  | .nil, s, h => by cases h
  | .cons t b, s, h => by
    rw [Bdy.dp]
    rcases List.mem_cons.mp h with rfl | h
    · omega
    · have := bdy_dp h
      omega
mutual
/-- no body is longer -/
def Stp.wide (n : Nat) : Stp → Prop
  | .call _ | .check _ | .tail _ | .back => True
  | .either a b => a.wide n ∧ b.wide n
  | .loop a => a.wide n
  | .block _ a => a.wide n
def Bdy.wide (n : Nat) : Bdy → Prop
  | .nil => True
  | .cons s b => s.wide n ∧ b.wide n ∧ b.list.length + 1 ≤ n
end
theorem bdy_wide {n : Nat} : ∀ {b : Bdy}, b.wide n → b.list.length ≤ n ∧ ∀ s, s ∈ b.list → s.wide n
  | .nil, _ => ⟨Nat.zero_le n, fun s h => by cases h⟩
  | .cons t b, h => by
    rw [Bdy.wide] at h
    refine ⟨h.2.2, fun s hs => ?_⟩
    rcases List.mem_cons.mp hs with rfl | hs
    · exact h.1
    · exact (bdy_wide h.2.1).2 s hs
theorem wide_in {n : Nat} {s : Stp} {b : Bdy} (h : s.wide n) (m : Prt.bod b ∈ s.ps) : b.list.length ≤ n ∧ ∀ t, t ∈ b.list → t.wide n := by
  cases s <;> (simp [Stp.ps] at m) <;> (rw [Stp.wide] at h)
  · rcases m with rfl | rfl
    · exact bdy_wide h.1
    · exact bdy_wide h.2
  · subst m; exact bdy_wide h
  · subst m; exact bdy_wide h
theorem list_cnt : ∀ b : Bdy, b.list.length ≤ b.cnt
  | .nil => Nat.zero_le _
  | .cons s b => by
    rw [Bdy.cnt, Bdy.list, List.length_cons]
    have := list_cnt b
    have := ps_cnt s
    omega
mutual
/-- a body of few steps is nowhere long -/
theorem Stp.wide_of {n : Nat} : ∀ s : Stp, s.cnt ≤ n → s.wide n
  | .call _, _ => by rw [Stp.wide]; trivial
  | .check _, _ => by rw [Stp.wide]; trivial
  | .tail _, _ => by rw [Stp.wide]; trivial
  | .back, _ => by rw [Stp.wide]; trivial
  | .either a b, h => by
    rw [Stp.cnt] at h
    rw [Stp.wide]
    exact ⟨Bdy.wide_of a (by omega), Bdy.wide_of b (by omega)⟩
  | .loop a, h => by
    rw [Stp.cnt] at h
    rw [Stp.wide]
    exact Bdy.wide_of a (by omega)
  | .block _ a, h => by
    rw [Stp.cnt] at h
    rw [Stp.wide]
    exact Bdy.wide_of a (by omega)
theorem Bdy.wide_of {n : Nat} : ∀ b : Bdy, b.cnt ≤ n → b.wide n
  | .nil, _ => by rw [Bdy.wide]; trivial
  | .cons s b, h => by
    have h2 := h
    rw [Bdy.cnt] at h2
    rw [Bdy.wide]
    have h3 := list_cnt (.cons s b)
    rw [Bdy.list, List.length_cons] at h3
    exact ⟨Stp.wide_of s (by omega), Bdy.wide_of b (by omega), by omega⟩
end
abbrev s_law_count : Stmt := top 34
abbrev N_law_count : List Str := ["body", "many", "step", "part"]
theorem sc_law_count : FnScope N_law_count ["body"] (defScope s_law_count) := ⟨rfl, rfl, rfl, by decide +kernel, rfl, by decide +kernel, by decide +kernel⟩
abbrev s_law_copied : Stmt := top 37
abbrev N_law_copied : List Str := ["body", "found", "step", "part"]
theorem sc_law_copied : FnScope N_law_copied ["body"] (defScope s_law_copied) := ⟨rfl, rfl, rfl, by decide +kernel, rfl, by decide +kernel, by decide +kernel⟩
structure TxtP (mg : Str → Option Value) : Prop where
  m_isinstance : mg "isinstance" = none
  m_list : mg "list" = none
  m_tuple : mg "tuple" = none
  m_sum : mg "sum" = none
  m_len : mg "len" = none
  m_range : mg "range" = none
theorem sum_cast : ∀ l : List Bdy, (l.map fun b => (b.cnt : Int)).sum = ((l.map Bdy.cnt).sum : Nat)
  | [] => rfl
  | b :: l => by rw [List.map_cons, List.map_cons, List.sum_cons, List.sum_cons, sum_cast l]; omega
def sp_count (K : PySem.W.Frag) (k : Nat) : Sp := fun vs H Q _ => ∃ (v : V) (b : Bdy), vs = [v] ∧ Dq K H v b.d ∧ b.dp ≤ k ∧ ∀ H', Same H H' → Q (.int (b.cnt : Int)) H'
def sp_cin (K : PySem.W.Frag) : Nat → Sp
  | 0 => sp_no
  | k + 1 => sp_count K k
section
variable {P : Program} {w : World} {K : PySem.W.Frag} {mg : Str → Option Value} {base : Heap} {f f_c : Addr} {fd fd_c : FuncData}
theorem ok_count1 (k : Nat) (F : FnP K "_law_count" s_law_count f fd) (G_law_count : FnOk P w K mg base CX0 k f fd ["body"] (sp_cin K k)) (g_law_count : mg "_law_count" = some (.ref f)) (T : TxtP mg) : FnOk P w K mg base CX0 (k + 1) f fd ["body"] (sp_count K k) := by
  have b_law_count : Binds K fd ["body"] [] := F.bindsN fun _ _ _ _ _ _ us hl => match us, hl with | [_], _ => rfl
  have k_law_count := F.kp
  refine F.ok sc_law_count (fun vs H Q E h => ?_) (fun cdv A outer s H vs Q E hr h => ?_)
  · obtain ⟨v, b, rfl, _⟩ := h
    rfl
  obtain ⟨v, b, rfl, hb, hk, hQ⟩ := h
  obtain ⟨a, xs, rfl, hs, hx⟩ := lst_inv hb
  refine ⟨_, PSs.nox (pss_cons (ps_set (i := 1) sc_law_count.nd rfl (by first | exact Or.inl rfl | exact Or.inr rfl) pe_int)
    (pss_cons (ps_for PassesOwn.never rfl (Rd.pi_listK (K := K) rfl (pv 0)) (pg_name (i := 2) sc_law_count.nd rfl (by first | exact Or.inl rfl | exact Or.inr rfl)) (pss_one (ps_set (i := 1) sc_law_count.nd rfl (by first | exact Or.inl rfl | exact Or.inr rfl) (pe_op op_add (pe_op op_add (pv 1) pe_int) (pe_callB (show CallR _ (.builtin "sum") (rSum K) from Rd.c_sum rfl) (by rfl) T.m_sum (by decide +kernel) (pa_cons (pe_lc (own := [("part", 3)]) (g := gName 3) rfl sc_law_count.nd (Rd.pi_tupK (K := K) rfl (pv 2)) (blkOk_by (N := N_law_count) (sc := defScope s_law_count) (by decide +kernel)) (fun _ _ _ _ _ => pg_name (i := 3) sc_law_count.nd rfl (Or.inl rfl)) (fun _ _ _ _ _ => (pts_one (pt_val (pe_callB (show CallR _ (.builtin "isinstance") (rIsi K) from call_isi) (by rfl) T.m_isinstance (by decide +kernel) (pa_cons (pv 3) (pa_cons (pe_bltn (v := .ty "list") (by rfl) T.m_list (by decide +kernel) rfl) pa_nil)))))) (fun _ _ _ _ _ => (pe_call G_law_count (hr.mono (by omega)) rfl g_law_count k_law_count b_law_count .nil pass0 (pa_cons (pv 3) pa_nil)))) pa_nil))))))
    (pss_one (ps_ret (pv 1))))), ?_⟩
  walk_at "rd"
  refine Rd.l1 hs ?_
  rw [Bdy.d] at hb
  rw [bdy_ds] at hx
  refine Rd.byL (xs := xs) (fun i σ H' => ∃ o2 o3, σ = [some (.ref a), some (.int (((b.list.take i).map Stp.cnt).sum : Nat)), o2, o3] ∧ Same H H') ⟨none, none, rfl, Same.refl H⟩ (fun i σ H' hi h => ?_) (fun i x σ H' hi h => ?_) (fun σ H' h => ?_)
  · obtain ⟨_, _, _, s1⟩ := h
    exact s1.seq hs
  · obtain ⟨o2, o3, rfl, s1⟩ := h
    obtain ⟨d, hd, hxd⟩ := dqAll_get hx hi
    rw [List.getElem?_map] at hd
    obtain ⟨st, hst, rfl⟩ := Option.map_eq_some_iff.mp hd
    have hsd := bdy_dp (List.mem_of_getElem? hst)
    rw [ps_d] at hxd
    obtain ⟨t, ys, rfl, ht, hy⟩ := tup_inv (Dq.same s1 _ _ hxd)
    have tk : ((b.list.take (i + 1)).map Stp.cnt).sum = ((b.list.take i).map Stp.cnt).sum + st.cnt := by
      rw [List.take_add_one, hst, List.map_append, List.sum_append]
      rfl
    walk_at "rd"
    refine Rd.t1 ht fun D hD => ?_
    refine Rd.byCT (xs := ys) (fun j H2 => Same H' H2 ∧ H2 D = some (.lst (((st.ps.take j).filterMap Prt.b?).map fun b => V.int (b.cnt : Int)))) ⟨same_upd hD, upd_same⟩ (fun j H2 hj h => sqT_same h.1 ht) (fun j y H2 hj h => ?_) (fun H2 h => ?_)
    · obtain ⟨s2, e2⟩ := h
      obtain ⟨pd, hpd, hyd⟩ := dqAll_get hy hj
      rw [List.getElem?_map] at hpd
      obtain ⟨pr, hpr, rfl⟩ := Option.map_eq_some_iff.mp hpd
      have hmem := List.mem_of_getElem? hpr
      have tk2 : ((st.ps.take (j + 1)).filterMap Prt.b?).map (fun b => V.int (b.cnt : Int)) = ((st.ps.take j).filterMap Prt.b?).map (fun b => V.int (b.cnt : Int)) ++ ([pr].filterMap Prt.b?).map (fun b => V.int (b.cnt : Int)) := by
        rw [List.take_add_one, hpr, List.filterMap_append, List.map_append]
        rfl
      have len : (((st.ps.take j).filterMap Prt.b?).map fun b => V.int (b.cnt : Int)).length < 1000 := by
        rw [List.length_map]
        have h1 := List.length_filterMap_le Prt.b? (st.ps.take j)
        have h2 : (st.ps.take j).length ≤ st.ps.length := by rw [List.length_take]; exact Nat.min_le_right _ _
        have h3 := ps_len st
        omega
      refine Rd.turnIf rfl ?_
      walk_at "rd"
      cases pr with
      | dat d =>
        refine isiF (Dq.same s2 _ _ hyd) (ps_flat hmem) ?_
        walk_at "rd"
        refine Rd.brF rfl ⟨s2, ?_⟩
        rw [tk2]
        exact e2.trans (by rw [show [Prt.dat d].filterMap Prt.b? = [] from rfl, List.map_nil, List.append_nil])
      | bod bb =>
        have hyd2 : Dq K H2 y bb.d := Dq.same s2 _ _ hyd
        have hy3 := hyd2
        rw [Bdy.d] at hy3
        refine isiL hy3 ?_
        walk_at "rd"
        refine Rd.brT rfl ?_
        walk_at "rd"
        have dp := ps_dp hmem
        obtain ⟨k', rfl⟩ : ∃ k', k = k' + 1 := ⟨k - 1, by omega⟩
        refine ⟨y, bb, rfl, hyd2, by omega, fun H3 s3 => ?_⟩
        refine Rd.acc (s3 _ _ e2) len ⟨?_, ?_⟩
        · intro x o e
          exact (upd_ne (ne_of_none e hD)).trans (s3 _ _ (s2 _ _ e))
        · rw [upd_same, tk2]
          rfl
    · obtain ⟨s2, e2⟩ := h
      rw [dqAll_len hy, List.length_map, List.take_length] at e2
      walk_at "rd"
      refine ⟨D, (st.ps.filterMap Prt.b?).map (fun b => (b.cnt : Int)), rfl, .inl (.inl (by rw [List.map_map]; exact e2)), ?_⟩
      walk_at "rd"
      refine ⟨some (.ref t), o3, ?_, s1.trans s2⟩
      have e3 := ps_cnt st
      have e4 := sum_cast (st.ps.filterMap Prt.b?)
      rw [tk, show ((((b.list.take i).map Stp.cnt).sum : Nat) : Int) + 1 + ((st.ps.filterMap Prt.b?).map fun b => (b.cnt : Int)).sum = ((((b.list.take i).map Stp.cnt).sum + st.cnt : Nat) : Int) by rw [e4]; omega]
      rfl
  · obtain ⟨o2, o3, rfl, s1⟩ := h
    walk_at "rd"
    rw [dqAll_len hx, List.length_map, List.take_length, ← bdy_cnt]
    exact hQ H' s1
theorem ok_count (F : FnP K "_law_count" s_law_count f fd) (g_law_count : mg "_law_count" = some (.ref f)) (T : TxtP mg) : ∀ k, FnOk P w K mg base CX0 (k + 1) f fd ["body"] (sp_count K k) := fun k => by
  induction k with
  | zero => exact ok_count1 0 F fn_no g_law_count T
  | succ k ih => exact ok_count1 (k + 1) F ih g_law_count T
end

end Bs
set_option Elab.async false
set_option linter.all false
set_option maxRecDepth 100000
set_option maxHeartbeats 4000000
/-! bodies copied -/
namespace Bs
open PySem PySem.Spec PyProof.Rows L2 Gd Er
local macro_rules | `(tactic| walk_at "rdc") => `(tactic| (first
  | assumption | exact Or.inl ⟨by omega, by omega⟩ | exact Or.inr ⟨by omega, by omega⟩ | exact Or.inl ⟨by decide, by decide⟩ | exact Or.inr ⟨by decide, by decide⟩
  | (show (0 : Int) < _; omega) | (show (0 : Int) < _; decide) | decide | omega | exact ⟨by decide, by decide, by decide⟩ | exact ⟨by decide, by decide +kernel⟩ | decide +kernel))
local macro_rules | `(tactic| walk_at "rdh") => `(tactic| (first | assumption | exact upd_same))
local macro_rules | `(tactic| walk_at "rd1") => `(tactic| (first
  | (with_reducible refine Rd.var rfl ?_) | (with_reducible refine Rd.con ?_) | (with_reducible refine Rd.op ?_) | (with_reducible refine Rd.un ?_) | (with_reducible refine Rd.i0 ?_) | (with_reducible refine Rd.iu ?_)
  | (with_reducible refine Rd.nil ?_) | (with_reducible refine Rd.cons ?_) | (with_reducible refine Rd.cb ?_) | (with_reducible refine Rd.asg ?_) | (with_reducible refine Rd.name ?_) | (with_reducible refine Rd.sub ?_) | (with_reducible refine Rd.rev ?_) | (with_reducible refine Rd.drop ?_) | (with_reducible refine Rd.bm ?_) | (with_reducible refine Rd.par ?_) | (with_reducible refine Rd.p2 ?_) | (with_reducible refine Rd.sl ?_) | (with_reducible refine Rd.noPart ?_) | (with_reducible refine Rd.part ?_) | (with_reducible refine Rd.int_ ?_) | (with_reducible refine Rd.seq ?_)
  | (with_reducible refine Rd.ret ?_) | (with_reducible refine Rd.retN ?_) | (with_reducible refine Rd.nxt ?_) | (with_reducible refine Rd.tst ?_) | (with_reducible refine Rd.tb_ ?_) | (with_reducible refine Rd.tnot ?_)
  | (with_reducible refine Rd.tor ?_) | (with_reducible refine Rd.tand ?_) | (with_reducible refine Rd.ifs ?_) | (with_reducible refine Rd.ife ?_) | (with_reducible refine Rd.lst ?_) | (with_reducible refine Rd.tup ?_)
  | (with_reducible refine Rd.int1 ?_) | (with_reducible refine Rd.bl ?_) | (with_reducible refine Rd.call ?_)
  | (with_reducible refine Rd.mx ?_) | (with_reducible refine Rd.bits ?_) | (with_reducible refine Rd.forR ?_) | (with_reducible refine Rd.forL ?_) | (with_reducible refine Rd.lcR ?_) | (with_reducible refine Rd.lcL ?_) | (with_reducible refine Rd.lcT ?_) | (with_reducible refine Rd.chain ?_) | (with_reducible refine Rd.notv ?_) | (with_reducible refine Rd.forS ?_) | (with_reducible refine Rd.lcS ?_) | (with_reducible refine Rd.str_ ?_) | (with_reducible refine Rd.forE ?_) | (with_reducible refine Rd.lcI ?_) | (with_reducible refine Rd.tgt ?_) | (with_reducible refine Rd.gcons ?_) | (with_reducible refine Rd.gnil ?_) | (with_reducible refine Rd.fld ?_) | (with_reducible refine Rd.sfld ?_) | (with_reducible refine Rd.meth ?_) | (with_reducible refine Rd.forT ?_)
  | ((with_reducible refine' Rd.ixLT ?rh ?ra ?_); (case rh => walk_at "rdh"); (case ra => rfl))
  | ((with_reducible refine' Rd.setL ?rh ?ra ?_); (case rh => walk_at "rdh"); (case ra => rfl))
  | ((with_reducible refine Rd.ic ?rc ?_); (case rc => walk_at "rdc"))))
local macro_rules | `(tactic| walk_at "rd") => `(tactic| (repeat (walk_at "rd1")))


/-- a copy is told: new lists, the same data -/
def GiveC (K : PySem.W.Frag) (W H : Hp) (d : PyData) (Q : VK) : Prop := ∀ T W' H', Same H H' → Grow W W' H → Same W' H' → Dq K W' (.ref T) d → H T = none → Q (.ref T) H'
def sp_copied (K : PySem.W.Frag) (k : Nat) : Sp := fun vs H Q _ => ∃ (v : V) (W : Hp) (b : Bdy), vs = [v] ∧ Same W H ∧ Dq K W v b.d ∧ b.dp ≤ k ∧ b.list.length ≤ 500 ∧ (∀ s, s ∈ b.list → s.wide 500) ∧ GiveC K W H b.d Q
def sp_kin (K : PySem.W.Frag) : Nat → Sp
  | 0 => sp_no
  | k + 1 => sp_copied K k
section
variable {P : Program} {w : World} {K : PySem.W.Frag} {mg : Str → Option Value} {base : Heap} {f : Addr} {fd : FuncData}
theorem ok_copied1 (k : Nat) (F : FnP K "_law_copied" s_law_copied f fd) (G_law_copied : FnOk P w K mg base CX0 k f fd ["body"] (sp_kin K k)) (g_law_copied : mg "_law_copied" = some (.ref f)) (T : TxtP mg) : FnOk P w K mg base CX0 (k + 1) f fd ["body"] (sp_copied K k) := by
  have b_law_copied : Binds K fd ["body"] [] := F.bindsN fun _ _ _ _ _ _ us hl => match us, hl with | [_], _ => rfl
  have k_law_copied := F.kp
  refine F.ok sc_law_copied (fun vs H Q E h => ?_) (fun cdv A outer s H vs Q E hr h => ?_)
  · obtain ⟨v, W, b, rfl, _⟩ := h
    rfl
  obtain ⟨v, W, b, rfl, sW, hb, hk, hlen, hw, hQ⟩ := h
  rw [Bdy.d] at hb hQ
  obtain ⟨a, xs, rfl, hs, hx⟩ := lst_inv hb
  rw [bdy_ds] at hx hQ
  refine ⟨_, PSs.nox (pss_cons (ps_set (i := 1) sc_law_copied.nd rfl (by first | exact Or.inl rfl | exact Or.inr rfl) (pe_lst pa_nil))
    (pss_cons (ps_for PassesOwn.never rfl (Rd.pi_listK (K := K) rfl (pv 0)) (pg_name (i := 2) sc_law_copied.nd rfl (by first | exact Or.inl rfl | exact Or.inr rfl)) (pss_one (ps_expr (pe_bm PySem.F.plainAttrs_list PySem.F.slot_list_append PySem.F.type_list_append mt_append (pv 1) (pa_cons (pe_callTy (show CallR _ (.type "tuple") (Rd.rTupOf K) from Rd.c_tupOf) (by rfl) T.m_tuple (by decide +kernel) (pa_cons (pe_lc (own := [("part", 3)]) (g := gName 3) rfl sc_law_copied.nd (Rd.pi_tupK (K := K) rfl (pv 2)) (blkOk_by (N := N_law_copied) (sc := defScope s_law_copied) (by decide +kernel)) (fun _ _ _ _ _ => pg_name (i := 3) sc_law_copied.nd rfl (Or.inl rfl)) (fun _ _ _ _ _ => pts_nil) (fun _ _ _ _ _ => (pe_ifExp (pt_val (pe_callB (show CallR _ (.builtin "isinstance") (rIsi K) from call_isi) (by rfl) T.m_isinstance (by decide +kernel) (pa_cons (pv 3) (pa_cons (pe_bltn (v := .ty "list") (by rfl) T.m_list (by decide +kernel) rfl) pa_nil)))) (pe_call G_law_copied (hr.mono (by omega)) rfl g_law_copied k_law_copied b_law_copied .nil pass0 (pa_cons (pv 3) pa_nil)) (pv 3)))) pa_nil)) pa_nil)))))
    (pss_one (ps_ret (pv 1))))), ?_⟩
  walk_at "rd"
  refine mkLs fun F0 H1 nF s1 eF => ?_
  walk_at "rd"
  refine Rd.l1 (s1.seq (sW.seq hs)) ?_
  refine Rd.byL (xs := xs) (fun i σ H' => ∃ (W' : Hp) (items : List V) (o2 o3 : Option V), σ = [some (.ref a), some (.ref F0), o2, o3] ∧ Grow W W' H ∧ Same W' H' ∧ W' F0 = none ∧ Same H H' ∧ H' F0 = some (.lst items) ∧ DqAll K W' items ((b.list.take i).map Stp.d))
    ⟨W, [], none, none, rfl, Grow.refl, sW.trans s1, same_none sW nF, s1, eF, .nil⟩ (fun i σ H' hi h => ?_) (fun i x σ H' hi h => ?_) (fun σ H' h => ?_)
  · obtain ⟨W', _, _, _, _, a1, a2, _⟩ := h
    exact a2.seq (a1.s.seq hs)
  · obtain ⟨W', items, o2, o3, rfl, a1, a2, a3, a4, a5, a6⟩ := h
    obtain ⟨d, hd, hxd⟩ := dqAll_get hx hi
    rw [List.getElem?_map] at hd
    obtain ⟨st, hst, rfl⟩ := Option.map_eq_some_iff.mp hd
    have hmem := List.mem_of_getElem? hst
    have hsd := bdy_dp hmem
    have hi2 := (List.getElem?_eq_some_iff.mp hst).1
    have li : items.length < 1000 := by
      rw [dqAll_len a6, List.length_map, List.length_take]
      omega
    have tk : (b.list.take (i + 1)).map Stp.d = (b.list.take i).map Stp.d ++ [st.d] := by
      rw [List.take_add_one, hst, List.map_append]
      rfl
    rw [ps_d] at hxd
    obtain ⟨t, ys, rfl, ht, hy⟩ := tup_inv (Dq.same a1.s _ _ hxd)
    refine Rd.name (Rd.drop (Rd.bm (Rd.var rfl (Rd.app a5 ?_))))
    walk_at "rd"
    refine Rd.t1 (sqT_same a2 ht) fun D hD => ?_
    have FD : F0 ≠ D := fun z => by rw [← z, a5] at hD; cases hD
    refine Rd.byCT (xs := ys) (fun j H2 => ∃ (W2 : Hp) (its : List V), Grow W' W2 H' ∧ Same W2 H2 ∧ W2 D = none ∧ Same H' H2 ∧ H2 D = some (.lst its) ∧ DqAll K W2 its ((st.ps.take j).map Prt.d))
      ⟨W', [], Grow.refl, a2.trans (same_upd hD), same_none a2 hD, same_upd hD, upd_same, .nil⟩ (fun j H2 hj h => ?_) (fun j y H2 hj h => ?_) (fun H2 h => ?_)
    · obtain ⟨W2, its, b1, b2, _⟩ := h
      exact sqT_same b2 (sqT_same b1.s ht)
    · obtain ⟨W2, its, b1, b2, b3, b4, b5, b6⟩ := h
      obtain ⟨pd, hpd, hyd⟩ := dqAll_get hy hj
      rw [List.getElem?_map] at hpd
      obtain ⟨pr, hpr, rfl⟩ := Option.map_eq_some_iff.mp hpd
      have hpm := List.mem_of_getElem? hpr
      have tk2 : (st.ps.take (j + 1)).map Prt.d = (st.ps.take j).map Prt.d ++ [pr.d] := by
        rw [List.take_add_one, hpr, List.map_append]
        rfl
      have lj : its.length < 1000 := by
        rw [dqAll_len b6, List.length_map, List.length_take]
        have := ps_len st
        omega
      have hyd2 := Dq.same b1.s _ _ hyd
      refine Rd.turn1 rfl ?_
      walk_at "rd"
      cases pr with
      | dat d =>
        refine isiF (Dq.same b2 _ _ hyd2) (ps_flat hpm) ?_
        walk_at "rd"
        refine Rd.brF rfl ?_
        walk_at "rd"
        refine Rd.acc b5 lj ⟨W2, its ++ [y], b1, ?_, b3, ?_, upd_same, ?_⟩
        · intro x o e
          exact (upd_ne (fun z => by rw [z, b3] at e; cases e)).trans (b2 _ _ e)
        · intro x o e
          exact (upd_ne (ne_of_none e hD)).trans (b4 _ _ e)
        · rw [tk2]
          exact dqAll_app (.cons hyd2 .nil) b6
      | bod bb =>
        have hy3 : Dq K H2 y (.list bb.ds) := Dq.same b2 _ _ hyd2
        refine isiL hy3 ?_
        walk_at "rd"
        refine Rd.brT rfl ?_
        walk_at "rd"
        have dp := ps_dp hpm
        obtain ⟨k', rfl⟩ : ∃ k', k = k' + 1 := ⟨k - 1, by omega⟩
        obtain ⟨w1, w2⟩ := wide_in (hw st hmem) hpm
        refine ⟨y, W2, bb, rfl, b2, hyd2, by omega, w1, w2, fun T W3 H3 q1 q2 q3 q4 q5 => ?_⟩
        have W3D : W3 D = none := q2.n D _ b5 b3
        refine Rd.acc (q1 _ _ b5) lj ⟨W3, its ++ [.ref T], b1.trans q2 (Same.alive b4), ?_, W3D, ?_, upd_same, ?_⟩
        · intro x o e
          exact (upd_ne (fun z => by rw [z, W3D] at e; cases e)).trans (q3 _ _ e)
        · intro x o e
          exact (upd_ne (ne_of_none e hD)).trans (q1 _ _ (b4 _ _ e))
        · rw [tk2]
          exact dqAll_app (.cons q4 .nil) (Dq.sameAll q2.s _ _ b6)
    · obtain ⟨W2, its, b1, b2, b3, b4, b5, b6⟩ := h
      rw [dqAll_len hy, List.length_map, List.take_length] at b6
      walk_at "rd"
      refine ⟨D, its, rfl, .inl ⟨.inl (.inl b5), fun T hT => ?_⟩⟩
      walk_at "rd"
      have sT := same_upd (o := HO.tup its) hT
      have HT : H T = none := same_none (a4.trans b4) hT
      have W2T : W2 T = none := same_none b2 hT
      have W2F : W2 F0 = none := b1.n F0 _ a5 a3
      have FT : F0 ≠ T := fun z => by rw [← z, b4 _ _ a5] at hT; cases hT
      refine Rd.appTo (sT _ _ (b4 _ _ a5)) li ?_
      refine ⟨upd W2 T (.tup its), items ++ [.ref T], _, _, rfl, (a1.trans b1 (Same.alive a4)).put HT W2T, ?_, (upd_ne FT).trans W2F, ?_, upd_same, ?_⟩
      · intro x o e
        by_cases c : x = T
        · rw [c, upd_same] at e
          rw [c]
          cases e
          exact (upd_ne (Ne.symm FT)).trans upd_same
        · rw [upd_ne c] at e
          exact (upd_ne (fun z => by rw [z, W2F] at e; cases e)).trans ((upd_ne c).trans (b2 _ _ e))
      · intro x o e
        exact (upd_ne (ne_of_none e nF)).trans (sT _ _ (b4 _ _ (a4 _ _ e)))
      · rw [tk]
        refine dqAll_app (.cons ?_ .nil) (Dq.sameAll (b1.s.trans (same_upd W2T)) _ _ a6)
        rw [ps_d]
        exact .tup (.inl (.inl upd_same)) (Dq.sameAll (same_upd W2T) _ _ b6)
  · obtain ⟨W', items, o2, o3, rfl, a1, a2, a3, a4, a5, a6⟩ := h
    rw [dqAll_len hx, List.length_map, List.take_length] at a6
    walk_at "rd"
    exact hQ F0 (upd W' F0 (.lst items)) H' a4 (a1.put nF a3) (same_put a2 a5) (.lst (.inl (.inl upd_same)) (Dq.sameAll (same_upd a3) _ _ a6)) nF
theorem ok_copied (F : FnP K "_law_copied" s_law_copied f fd) (g_law_copied : mg "_law_copied" = some (.ref f)) (T : TxtP mg) : ∀ k, FnOk P w K mg base CX0 (k + 1) f fd ["body"] (sp_copied K k) := fun k => by
  induction k with
  | zero => exact ok_copied1 0 F fn_no g_law_copied T
  | succ k ih => exact ok_copied1 (k + 1) F ih g_law_copied T
end

end Bs
set_option Elab.async false
set_option linter.all false
set_option maxRecDepth 100000
set_option maxHeartbeats 4000000
/-! a program's parts drawn -/
namespace Bs
open PySem PySem.Spec PyProof.Rows L2 Gd Er
local macro_rules | `(tactic| walk_at "rdc") => `(tactic| (first
  | assumption | exact Or.inl ⟨by omega, by omega⟩ | exact Or.inr ⟨by omega, by omega⟩ | exact Or.inl ⟨by decide, by decide⟩ | exact Or.inr ⟨by decide, by decide⟩
  | (show (0 : Int) < _; omega) | (show (0 : Int) < _; decide) | decide | omega | exact ⟨by decide, by decide, by decide⟩ | exact ⟨by decide, by decide +kernel⟩ | decide +kernel))
local macro_rules | `(tactic| walk_at "rdh") => `(tactic| (first | assumption | exact upd_same))
local macro_rules | `(tactic| walk_at "rd1") => `(tactic| (first
  | (with_reducible refine Rd.var rfl ?_) | (with_reducible refine Rd.con ?_) | (with_reducible refine Rd.op ?_) | (with_reducible refine Rd.un ?_) | (with_reducible refine Rd.i0 ?_) | (with_reducible refine Rd.iu ?_)
  | (with_reducible refine Rd.nil ?_) | (with_reducible refine Rd.cons ?_) | (with_reducible refine Rd.cb ?_) | (with_reducible refine Rd.asg ?_) | (with_reducible refine Rd.name ?_) | (with_reducible refine Rd.sub ?_) | (with_reducible refine Rd.rev ?_) | (with_reducible refine Rd.drop ?_) | (with_reducible refine Rd.bm ?_) | (with_reducible refine Rd.par ?_) | (with_reducible refine Rd.p2 ?_) | (with_reducible refine Rd.sl ?_) | (with_reducible refine Rd.noPart ?_) | (with_reducible refine Rd.part ?_) | (with_reducible refine Rd.int_ ?_) | (with_reducible refine Rd.seq ?_)
  | (with_reducible refine Rd.ret ?_) | (with_reducible refine Rd.retN ?_) | (with_reducible refine Rd.nxt ?_) | (with_reducible refine Rd.tst ?_) | (with_reducible refine Rd.tb_ ?_) | (with_reducible refine Rd.tnot ?_)
  | (with_reducible refine Rd.tor ?_) | (with_reducible refine Rd.tand ?_) | (with_reducible refine Rd.ifs ?_) | (with_reducible refine Rd.ife ?_) | (with_reducible refine Rd.lst ?_) | (with_reducible refine Rd.tup ?_)
  | (with_reducible refine Rd.int1 ?_) | (with_reducible refine Rd.bl ?_) | (with_reducible refine Rd.call ?_)
  | (with_reducible refine Rd.mx ?_) | (with_reducible refine Rd.bits ?_) | (with_reducible refine Rd.forR ?_) | (with_reducible refine Rd.forL ?_) | (with_reducible refine Rd.lcR ?_) | (with_reducible refine Rd.lcL ?_) | (with_reducible refine Rd.lcT ?_) | (with_reducible refine Rd.chain ?_) | (with_reducible refine Rd.notv ?_) | (with_reducible refine Rd.forS ?_) | (with_reducible refine Rd.lcS ?_) | (with_reducible refine Rd.str_ ?_) | (with_reducible refine Rd.forE ?_) | (with_reducible refine Rd.lcI ?_) | (with_reducible refine Rd.tgt ?_) | (with_reducible refine Rd.gcons ?_) | (with_reducible refine Rd.gnil ?_) | (with_reducible refine Rd.fld ?_) | (with_reducible refine Rd.sfld ?_) | (with_reducible refine Rd.meth ?_) | (with_reducible refine Rd.forT ?_)
  | ((with_reducible refine' Rd.ixLT ?rh ?ra ?_); (case rh => walk_at "rdh"); (case ra => rfl))
  | ((with_reducible refine' Rd.setL ?rh ?ra ?_); (case rh => walk_at "rdh"); (case ra => rfl))
  | ((with_reducible refine Rd.ic ?rc ?_); (case rc => walk_at "rdc"))))
local macro_rules | `(tactic| walk_at "rd") => `(tactic| (repeat (walk_at "rd1")))


/-! ### a program's parts, drawn -/
def allN : List Str := ["main", "f", "g", "h"]
mutual
theorem Stp.ok_mono {rs ns ns' : List Str} (h : ∀ x, x ∈ ns → x ∈ ns') : ∀ {m : Bool} {s : Stp}, s.ok rs ns m → s.ok rs ns' m
  | m, .call _, k => by rw [Stp.ok] at k ⊢; exact h _ k
  | m, .check _, k => by rw [Stp.ok] at k ⊢; exact k
  | m, .tail _, k => by rw [Stp.ok] at k ⊢; exact ⟨h _ k.1, k.2⟩
  | m, .back, k => by rw [Stp.ok]; trivial
  | m, .either a b, k => by rw [Stp.ok] at k ⊢; exact ⟨Bdy.ok_mono h k.1, Bdy.ok_mono h k.2⟩
  | m, .loop a, k => by rw [Stp.ok] at k ⊢; exact Bdy.ok_mono h k
  | m, .block _ a, k => by rw [Stp.ok] at k ⊢; exact Bdy.ok_mono h k
theorem Bdy.ok_mono {rs ns ns' : List Str} (h : ∀ x, x ∈ ns → x ∈ ns') : ∀ {m : Bool} {b : Bdy}, b.ok rs ns m → b.ok rs ns' m
  | m, .nil, k => by rw [Bdy.ok]; trivial
  | m, .cons s b, k => by rw [Bdy.ok] at k ⊢; exact ⟨Stp.ok_mono h k.1, Bdy.ok_mono h k.2⟩
end
def Bdy.ofL : List Stp → Bdy
  | [] => .nil
  | s :: l => .cons s (Bdy.ofL l)
theorem list_ofL : ∀ l : List Stp, (Bdy.ofL l).list = l
  | [] => rfl
  | s :: l => by rw [Bdy.ofL, Bdy.list, list_ofL l]
theorem ofL_ok {rs ns : List Str} {m : Bool} : ∀ {l : List Stp}, (∀ s, s ∈ l → s.ok rs ns m) → (Bdy.ofL l).ok rs ns m
  | [], _ => by rw [Bdy.ofL, Bdy.ok]; trivial
  | s :: l, h => by rw [Bdy.ofL, Bdy.ok]; exact ⟨h s List.mem_cons_self, ofL_ok fun t ht => h t (List.mem_cons_of_mem _ ht)⟩
theorem bdy_ok {rs ns : List Str} {m : Bool} : ∀ {b : Bdy}, b.ok rs ns m → ∀ s, s ∈ b.list → s.ok rs ns m
  | .nil, _, s, h => by cases h
  | .cons t b, k, s, h => by
    rw [Bdy.ok] at k
    rcases List.mem_cons.mp h with rfl | h
    · exact k.1
    · exact bdy_ok k.2 s h
theorem ofL_dp {k : Nat} : ∀ {l : List Stp}, (∀ s, s ∈ l → s.dp ≤ k) → (Bdy.ofL l).dp ≤ k
  | [], _ => by rw [Bdy.ofL, Bdy.dp]; exact Nat.zero_le k
  | s :: l, h => by
    rw [Bdy.ofL, Bdy.dp]
    have h1 := h s List.mem_cons_self
    have h2 := ofL_dp (k := k) (l := l) fun t ht => h t (List.mem_cons_of_mem _ ht)
    omega
def Bdy.init (b : Bdy) : Bdy := .ofL b.list.dropLast
theorem init_ok {rs ns : List Str} {m : Bool} {b : Bdy} (h : b.ok rs ns m) : b.init.ok rs ns m := ofL_ok fun s hs => bdy_ok h s (List.dropLast_subset _ hs)
theorem init_dp {k : Nat} {b : Bdy} (h : b.dp ≤ k) : b.init.dp ≤ k := ofL_dp fun s hs => Nat.le_trans (bdy_dp (List.dropLast_subset _ hs)) h
theorem init_ds (b : Bdy) : b.init.ds = b.ds.dropLast := by
  rw [bdy_ds, bdy_ds, Bdy.init, list_ofL, List.map_dropLast]
theorem cut_init (xs : List V) : cutV xs none (some (-1)) = xs.dropLast := by
  unfold cutV
  rw [List.dropLast_eq_take]
  show (xs.drop 0).take ((-1 + (xs.length : Int)).toNat - 0) = _
  rw [List.drop_zero, Nat.sub_zero, show (-1 + (xs.length : Int)).toNat = xs.length - 1 by omega]
theorem dqAll_init {K : PySem.W.Frag} {H : Hp} {vs : List V} {ds : List PyData} (h : DqAll K H vs ds) : DqAll K H vs.dropLast ds.dropLast := by
  rw [List.dropLast_eq_take, List.dropLast_eq_take, ← dqAll_len h]
  exact dqAll_take _ h
structure Parts where
  rs : List Str
  os : List (Str × List Str)
  fs : List (Str × Str × Bdy)
def fd3 (f : Str × Str × Bdy) : PyData := .tuple [.str f.1, .str f.2.1, f.2.2.d]
def funD (fs : List (Str × Str × Bdy)) : PyData := .list (fs.map fd3)
def rigD (rs : List Str) : PyData := .list (rs.map .str)
/-- what is drawn -/
structure Drawn (p : Parts) (many : Nat) : Prop where
  r : ∃ k, k < 3 ∧ p.rs = allR.take (k + 1)
  o : OwnOk p.rs p.os
  n : p.fs.map (·.1) = allN.take many
  f : ∀ f, f ∈ p.fs → f.2.1 ∈ p.os.map (·.1) ∧ f.2.2.ok p.rs (allN.take many) false ∧ f.2.2.dp ≤ 3 ∧ f.2.2.cnt ≤ 12
def cP : Nat := 5000
abbrev s_law_parts : Stmt := top 40
abbrev N_law_parts : List Str := ["generator", "many", "most", "rights", "owners", "names", "functions", "name", "body"]
theorem sc_law_parts : FnScope N_law_parts ["generator", "many", "most"] (defScope s_law_parts) := ⟨rfl, rfl, rfl, by decide +kernel, rfl, by decide +kernel, by decide +kernel⟩
def sp_parts (K : PySem.W.Frag) : Sp := fun vs H Q _ => ∃ (g : Addr) (many most : Nat) (W : Hp) (n : Nat), vs = [.ref g, .int (many : Int), .int (most : Int)] ∧ Same W H ∧ W g = none ∧ 1 ≤ many ∧ many ≤ 4 ∧ most ≤ 10 ∧ cP ≤ n ∧ GenAt H g n ∧
  ∀ (p : Parts) (T r o f : Addr) W' H', Drawn p many → But g H H' → Grow W W' H → Same W' H' → GenAt H' g (n - cP) → H' T = some (.lst [.ref r, .ref o, .ref f]) → W' T = none → H T = none →
    Dq K W' (.ref r) (rigD p.rs) → Dq K W' (.ref o) (ownD p.os) → Dq K W' (.ref f) (funD p.fs) → Q (.ref T) H'
section
variable {P : Program} {w : World} {K : PySem.W.Frag} {mg : Str → Option Value} {base : Heap} {f f_r f_b f_c f_g f_o : Addr} {fd fd_r fd_b fd_c fd_g fd_o : FuncData}
theorem ok_parts (F : FnP K "_law_parts" s_law_parts f fd) (G_law_random : FnOk P w K mg base CX0 2 f_r fd_r ["generator", "bound"] sp_rnd) (g_law_random : mg "_law_random" = some (.ref f_r)) (k_law_random : PySem.W.keepIn K (.ref f_r) = true) (b_law_random : Binds K fd_r ["generator", "bound"] [])
    (G_law_rights_drawn : FnOk P w K mg base CX0 3 f_g fd_g ["generator"] sp_rights_drawn) (g_law_rights_drawn : mg "_law_rights_drawn" = some (.ref f_g)) (k_law_rights_drawn : PySem.W.keepIn K (.ref f_g) = true) (b_law_rights_drawn : Binds K fd_g ["generator"] [])
    (G_law_owners_drawn : FnOk P w K mg base CX0 3 f_o fd_o ["generator", "rights"] (sp_owners_drawn K)) (g_law_owners_drawn : mg "_law_owners_drawn" = some (.ref f_o)) (k_law_owners_drawn : PySem.W.keepIn K (.ref f_o) = true) (b_law_owners_drawn : Binds K fd_o ["generator", "rights"] [])
    (G_law_body_drawn : FnOk P w K mg base CX0 8 f_b fd_b ["generator", "rights", "names", "deep", "marked", "most"] (sp_body K 2)) (g_law_body_drawn : mg "_law_body_drawn" = some (.ref f_b)) (k_law_body_drawn : PySem.W.keepIn K (.ref f_b) = true) (b_law_body_drawn : Binds K fd_b ["generator", "rights", "names", "deep", "marked", "most"] [])
    (G_law_count : FnOk P w K mg base CX0 4 f_c fd_c ["body"] (sp_count K 3)) (g_law_count : mg "_law_count" = some (.ref f_c)) (k_law_count : PySem.W.keepIn K (.ref f_c) = true) (b_law_count : Binds K fd_c ["body"] [])
    (T : TxtP mg) : FnOk P w K mg base CX0 9 f fd ["generator", "many", "most"] (sp_parts K) := by
  refine F.ok sc_law_parts (fun vs H Q E h => ?_) (fun cdv A outer s H vs Q E hr h => ?_)
  · obtain ⟨g, many, most, W, n, rfl, _⟩ := h
    rfl
  obtain ⟨g, many, most, W, n, rfl, sW, Wg, hm1, hm4, hmo, hn, hg, hQ⟩ := h
  refine ⟨_, PSs.nox (pss_cons (ps_set (i := 3) sc_law_parts.nd rfl (by first | exact Or.inl rfl | exact Or.inr rfl) (pe_call G_law_rights_drawn (hr.mono (by decide)) rfl g_law_rights_drawn k_law_rights_drawn b_law_rights_drawn .nil pass0 (pa_cons (pv 0) pa_nil)))
    (pss_cons (ps_par (i := 4) (j := 5) (by rfl) sc_law_parts.nd rfl rfl (by decide) rfl rfl (pa_cons (pe_call G_law_owners_drawn (hr.mono (by decide)) rfl g_law_owners_drawn k_law_owners_drawn b_law_owners_drawn .nil pass0 (pa_cons (pv 0) (pa_cons (pv 3) pa_nil))) (pa_cons (pe_slice (show L2.SlR _ (rSlL K) from sl_list) (pe_lst (pa_cons pe_str (pa_cons pe_str (pa_cons pe_str (pa_cons pe_str pa_nil))))) po_none (po_some (pv 1))) pa_nil)) (by rfl))
    (pss_cons (ps_set (i := 6) sc_law_parts.nd rfl (by first | exact Or.inl rfl | exact Or.inr rfl) (pe_lst pa_nil))
    (pss_cons (ps_for PassesOwn.never rfl (Rd.pi_listK (K := K) rfl (pv 5)) (pg_name (i := 7) sc_law_parts.nd rfl (by first | exact Or.inl rfl | exact Or.inr rfl)) (pss_cons (ps_set (i := 8) sc_law_parts.nd rfl (by first | exact Or.inl rfl | exact Or.inr rfl) (pe_call G_law_body_drawn (hr.mono (by decide)) rfl g_law_body_drawn k_law_body_drawn b_law_body_drawn .nil pass0 (pa_cons (pv 0) (pa_cons (pv 3) (pa_cons (pe_op op_cat (pe_slice (show L2.SlR _ (rSlL K) from sl_list) (pv 5) (po_some pe_int) po_none) (pe_slice (show L2.SlR _ (rSlL K) from sl_list) (pv 5) po_none (po_some pe_int))) (pa_cons pe_int (pa_cons pe_bl (pa_cons (pv 2) pa_nil))))))))
    (pss_cons (ps_while PassesOwn.never (pt_cmpR op_gt (pe_call G_law_count (hr.mono (by decide)) rfl g_law_count k_law_count b_law_count .nil pass0 (pa_cons (pv 8) pa_nil)) pe_int (nomark _)) (pss_one (ps_set (i := 8) sc_law_parts.nd rfl (by first | exact Or.inl rfl | exact Or.inr rfl) (pe_slice (show L2.SlR _ (rSlL K) from sl_list) (pv 8) po_none (po_some (pe_un un_neg pe_int))))))
    (pss_one (ps_expr (pe_bm PySem.F.plainAttrs_list PySem.F.slot_list_append PySem.F.type_list_append mt_append (pv 6) (pa_cons (pe_tup (pa_cons (pv 7) (pa_cons (pe_ix (show IxR _ (rIxT K) from ix_tup) (pe_ix (show IxR _ (rIxL K) from ix_list) (pv 4) (pe_call G_law_random (hr.mono (by decide)) rfl g_law_random k_law_random b_law_random .nil pass0 (pa_cons (pv 0) (pa_cons (pe_callB (show CallR _ (.builtin "len") (Rd.rLn K) from Rd.c_len) (by rfl) T.m_len boot_len (pa_cons (pv 4) pa_nil)) pa_nil))) (fun _ _ => rfl)) pe_int (fun _ _ => rfl)) (pa_cons (pv 8) pa_nil)))) pa_nil)))))))
    (pss_one (ps_ret (pe_lst (pa_cons (pv 3) (pa_cons (pv 4) (pa_cons (pv 6) pa_nil)))))))))), ?_⟩
  have hcP : cP = 5000 := rfl
  walk_at "rd"
  refine ⟨g, n, rfl, by omega, hg, fun k R H1 hk nR b1 g1 eR => ?_⟩
  have gR : R ≠ g := hg.ne nR
  have WR : W R = none := same_none sW nR
  have s1 := b1.same sW Wg
  walk_at "rd"
  refine ⟨g, R, upd W R (.lst ((allR.take (k + 1)).map V.str)), n - 1, allR.take (k + 1), rfl, same_put s1 eR, (upd_ne (Ne.symm gR)).trans Wg, upd_same, ?_, ?_, by omega, g1, fun os O W2 H2 ho b2 gr2 s2 g2 dO => ?_⟩
  · match k, hk with
    | 0, _ => decide
    | 1, _ => decide
    | 2, _ => decide
  · rw [List.length_take]
    show min (k + 1) 3 ≤ 5
    omega
  walk_at "rd"
  refine mkLs fun N0 H3 n3 s3 e3 => ?_
  walk_at "rd"
  refine slNew (.inl (.inl e3)) fun N H4 n4 s4 e4 => ?_
  have ec : cutV [V.str "main", V.str "f", V.str "g", V.str "h"] none (some (many : Int)) = (allN.take many).map V.str := by
    match many, hm1, hm4 with
    | 1, _, _ => rfl
    | 2, _, _ => rfl
    | 3, _, _ => rfl
    | 4, _, _ => rfl
  rw [ec] at e4
  generalize hrs : allR.take (k + 1) = rs at *
  generalize hns : allN.take many = ns at *
  have rl : rs.length = k + 1 := by
    rw [← hrs, List.length_take]
    show min (k + 1) 3 = k + 1
    omega
  have nl : ns.length = many := by
    rw [← hns, List.length_take]
    show min many 4 = many
    omega
  walk_at "rd"
  refine mkLs fun F0 H5 nF s5 eF => ?_
  have b02 : But g H H2 := b1.trans b2
  have b05 : But g H H5 := ((b02.then s3).then s4).then s5
  have al2 := b02.alive g2
  have N2 : W2 N = none := same_none (s2.trans s3) n4
  have HN : H N = none := b02.none (g2.ne (same_none s3 n4)) (same_none s3 n4)
  have HF : H F0 = none := b02.none (g2.ne (same_none (s3.trans s4) nF)) (same_none (s3.trans s4) nF)
  have gF : F0 ≠ g := hg.ne HF
  have gN : N ≠ g := hg.ne HN
  have grA : Grow W (upd W2 N (.lst (ns.map V.str))) H := ((Grow.refl.put nR WR).trans gr2 (b1.alive g1)).put HN N2
  have sA : Same (upd W2 N (.lst (ns.map V.str))) H5 := (same_put ((s2.trans s3).trans s4) e4).trans s5
  have NF : N ≠ F0 := fun z => by rw [← z, e4] at nF; cases nF
  have FA : upd W2 N (.lst (ns.map V.str)) F0 = none := (upd_ne (Ne.symm NF)).trans (same_none s2 (same_none (s3.trans s4) nF))
  have dA : Dq K (upd W2 N (.lst (ns.map V.str))) (.ref O) (ownD os) := Dq.same (same_upd N2) _ _ dO
  have RA : upd W2 N (.lst (ns.map V.str)) R = some (.lst (rs.map V.str)) := (same_upd N2) _ _ (gr2.s _ _ upd_same)
  have NA : upd W2 N (.lst (ns.map V.str)) N = some (.lst (ns.map V.str)) := upd_same
  have g5 : GenAt H5 g (n - 31) := (((g2.same s3).same s4).same s5).less (by omega)
  generalize upd W2 N (.lst (ns.map V.str)) = WA at *
  have osl : os.length = 1 ∨ os.length = 2 ∨ os.length = 3 := by
    obtain ⟨⟨q, hq, hh⟩, _⟩ := ho
    have e : os.length = q + 1 := by
      have h1 : (os.map (·.1)).length = q + 1 := by
        rcases hh with hh | hh
        · rw [hh, List.length_take]
          show min (q + 1) 3 = q + 1
          omega
        · rw [hh, List.length_reverse, List.length_take]
          show min (q + 1) 3 = q + 1
          omega
      rw [List.length_map] at h1
      exact h1
    omega
  have c2 : most * cS 2 ≤ 1040 := by
    have h := Nat.mul_le_mul_right (cS 2) hmo
    have e : cS 2 = 104 := by decide
    rw [e] at h ⊢
    omega
  walk_at "rd"
  refine Rd.l1 (.inl (.inl (sA _ _ NA))) ?_
  refine Rd.byL (xs := ns.map V.str) (fun i σ H' => ∃ (W' : Hp) (fs : List (Str × Str × Bdy)) (items : List V) (o7 o8 : Option V), σ = [some (.ref g), some (.int (many : Int)), some (.int (most : Int)), some (.ref R), some (.ref O), some (.ref N), some (.ref F0), o7, o8] ∧ Grow W W' H ∧ Same WA W' ∧ Same W' H' ∧ W' F0 = none ∧ But g H H' ∧
      H' F0 = some (.lst items) ∧ DqAll K W' items (fs.map fd3) ∧ fs.map (·.1) = ns.take i ∧ (∀ f, f ∈ fs → f.2.1 ∈ os.map (·.1) ∧ f.2.2.ok rs ns false ∧ f.2.2.dp ≤ 3 ∧ f.2.2.cnt ≤ 12) ∧ GenAt H' g (n - 31 - i * 1050))
    ⟨WA, [], [], none, none, rfl, grA, Same.refl WA, sA, FA, b05, eF, .nil, rfl, (fun f z => nomatch z), g5.less (by omega)⟩ (fun i σ H' hi h => ?_) (fun i x σ H' hx h => ?_) (fun σ H' h => ?_)
  · obtain ⟨W', _, _, _, _, _, _, a2, a3, _⟩ := h
    exact .inl (.inl (a3 _ _ (a2 _ _ NA)))
  · obtain ⟨W', fs, items, o7, o8, rfl, a1, a2, a3, a4, a5, a6, a7, a8, a9, a10⟩ := h
    rw [List.getElem?_map] at hx
    obtain ⟨nm, hnm, rfl⟩ := Option.map_eq_some_iff.mp hx
    have hi := (List.getElem?_eq_some_iff.mp hnm).1
    have hi3 : i * 1050 ≤ 3150 := by
      have := Nat.mul_le_mul_right 1050 (show i ≤ 3 by omega)
      omega
    have li : items.length < 1000 := by
      rw [dqAll_len a7, List.length_map, ← List.length_map (f := (·.1)), a8, List.length_take]
      omega
    walk_at "rd"
    refine slNew (.inl (.inl (a3 _ _ (a2 _ _ NA)))) fun p1 G1 m1 t1 u1 => ?_
    walk_at "rd"
    refine slNew (.inl (.inl (t1 _ _ (a3 _ _ (a2 _ _ NA))))) fun p2 G2 m2 t2 u2 => ?_
    refine catL (t2 _ _ u1) u2 (fun p3 G3 m3 t3 u3 => ?_) (by
      have h1 := cutV_length (ns.map V.str) (some 1) none
      have h2 := cutV_length (ns.map V.str) none (some 1)
      rw [List.length_map] at h1 h2
      omega)
    have cut1 : cutV (ns.map V.str) (some 1) none ++ cutV (ns.map V.str) none (some 1) = (ns.drop 1 ++ ns.take 1).map V.str := by
      rw [← hns]
      match many, hm1, hm4 with
      | 1, _, _ => rfl
      | 2, _, _ => rfl
      | 3, _, _ => rfl
      | 4, _, _ => rfl
    rw [cut1] at u3
    have nl2 : (ns.drop 1 ++ ns.take 1).length = many := by
      rw [List.length_append, List.length_drop, List.length_take]
      omega
    have sub2 : ∀ x, x ∈ ns.drop 1 ++ ns.take 1 → x ∈ ns := fun x hx => by
      rcases List.mem_append.mp hx with hx | hx
      · exact List.mem_of_mem_drop hx
      · exact List.mem_of_mem_take hx
    generalize ns.drop 1 ++ ns.take 1 = ns2 at *
    have t03 := (t1.trans t2).trans t3
    have W3 : W' p3 = none := same_none (a3.trans (t1.trans t2)) m3
    have H3n : H p3 = none := a5.none (a10.ne (same_none (t1.trans t2) m3)) (same_none (t1.trans t2) m3)
    have p3F : p3 ≠ F0 := fun z => by rw [z, (t1.trans t2) _ _ a6] at m3; cases m3
    have p3g : p3 ≠ g := hg.ne H3n
    have aW : a1.gen hg Wg = a1.gen hg Wg := rfl
    walk_at "rd"
    refine ⟨g, R, p3, false, most, upd W' p3 (.lst (ns2.map V.str)), _, rs, ns2, rfl, hmo, ⟨same_put (a3.trans t03) u3, (upd_ne (Ne.symm p3g)).trans (a1.gen hg Wg), (.inl (.inl ((same_upd W3) _ _ (a2 _ _ RA)))), .inl (.inl upd_same), by omega, by omega, by omega, by omega, by omega, a10.same t03⟩, fun b T W5 G5 q1 q2 q3 q4 q5 q6 q7 q8 q9 => ?_⟩
    have gr5 : Grow W W5 H := (a1.put H3n W3).trans q5 ((a5.then t03).alive (a10.same t03))
    have sA5 : Same WA W5 := (a2.trans (same_upd W3)).trans q5.s
    have F5 : W5 F0 = none := q5.n F0 _ (t03 _ _ a6) ((upd_ne (Ne.symm p3F)).trans a4)
    have b5 : But g H G5 := (a5.then t03).trans q4
    have e5 := q4 _ _ gF (t03 _ _ a6)
    have d5 : DqAll K W5 items (fs.map fd3) := Dq.sameAll ((same_upd W3).trans q5.s) _ _ a7
    walk_at "rd"
    refine Rd.byW (fun m σ G => ∃ (W6 : Hp) (c : Bdy) (T' : Addr), σ = [some (.ref g), some (.int (many : Int)), some (.int (most : Int)), some (.ref R), some (.ref O), some (.ref N), some (.ref F0), some (.str nm), some (.ref T')] ∧ Grow W W6 H ∧ Same WA W6 ∧ Same W6 G ∧ W6 F0 = none ∧ But g H G ∧ G F0 = some (.lst items) ∧
        DqAll K W6 items (fs.map fd3) ∧ Dq K W6 (.ref T') c.d ∧ c.ok rs ns false ∧ c.dp ≤ 3 ∧ c.list.length = m ∧ GenAt G g (n - 31 - i * 1050 - 1041))
      b.list.length ⟨W5, b, T, rfl, gr5, sA5, q6, F5, b5, e5, d5, q8, Bdy.ok_mono sub2 q1, q2, rfl, q7.less (by omega)⟩ fun m σ G h => ?_
    obtain ⟨W6, c, T', rfl, c1, c2', c3, c4, c5, c6, c7, c8, c9, c10, c11, c12⟩ := h
    walk_at "rd"
    refine ⟨.ref T', c, rfl, Dq.same c3 _ _ c8, c10, fun G6 t6 => ?_⟩
    walk_at "rd"
    refine Rd.wkB (fun cc => ?_) fun cc => ?_
    · have c12' : (12 : Int) < (c.cnt : Int) := of_decide_eq_true cc
      have c8' := c8
      rw [Bdy.d] at c8'
      obtain ⟨t, ts, et, ht, hts⟩ := lst_inv c8'
      cases et
      walk_at "rd"
      refine slNew (t6.seq (c3.seq ht)) fun p7 G7 m7 t7 u7 => ?_
      rw [cut_init] at u7
      have W7 : W6 p7 = none := same_none (c3.trans t6) m7
      have H7 : H p7 = none := (c5.then t6).none ((c12.same t6).ne m7) m7
      have F7 : F0 ≠ p7 := fun z => by rw [← z, t6 _ _ c6] at m7; cases m7
      have lc : c.list ≠ [] := fun z => by
        have := bdy_cnt c
        rw [z] at this
        simp at this
        omega
      refine ⟨m - 1, ?_, upd W6 p7 (.lst ts.dropLast), c.init, p7, rfl, c1.put H7 W7, c2'.trans (same_upd W7), same_put (c3.trans (t6.trans t7)) u7, (upd_ne F7).trans c4, c5.then (t6.trans t7), t7 _ _ (t6 _ _ c6), Dq.sameAll (same_upd W7) _ _ c7, ?_, init_ok c9, init_dp c10, ?_, (c12.same t6).same t7⟩
      · have := List.length_pos_iff.mpr lc
        omega
      · rw [Bdy.d, init_ds]
        exact .lst (.inl (.inl upd_same)) (Dq.sameAll (same_upd W7) _ _ (dqAll_init hts))
      · rw [Bdy.init, list_ofL, List.length_dropLast, c11]
    · have c12' : ¬ (12 : Int) < (c.cnt : Int) := of_decide_eq_false cc
      obtain ⟨Oa, Ox, eO, hO, hOx⟩ := lst_inv (Dq.same c2' _ _ dA)
      cases eO
      have Ol : Ox.length = os.length := by rw [dqAll_len hOx, List.length_map]
      refine Rd.drop (Rd.bm (Rd.var rfl (Rd.app (t6 _ _ c6) ?_)))
      walk_at "rd"
      refine Rd.lnL (t6.seq (c3.seq hO)) ?_
      walk_at "rd"
      refine rnd (c12.same t6) (by omega) (fun j G8 hj b8 g8 => ?_) (by omega) (by omega)
      obtain ⟨w8, hw8⟩ : ∃ w8, Ox[j]? = some w8 := ⟨_, List.getElem?_eq_getElem (by omega)⟩
      obtain ⟨d8, hd8, hq8⟩ := dqAll_get hOx hw8
      rw [List.getElem?_map] at hd8
      obtain ⟨ow, how, rfl⟩ := Option.map_eq_some_iff.mp hd8
      obtain ⟨ta, tx, rfl, hta, htx⟩ := tup_inv hq8
      cases htx with
      | cons hx1 hx2 =>
        cases hx1
        have s8 : Same W6 G8 := b8.same (c3.trans t6) (c1.gen hg Wg)
        refine Rd.ixL (v := .ref ta) (s8.seq hO) (atI_nat hw8) ?_
        walk_at "rd"
        refine Rd.ixT (v := .str ow.1) (sqT_same s8 hta) (show atI _ ((0 : Nat) : Int) = _ from atI_nat rfl) ?_
        walk_at "rd"
        refine mkTs fun T9 G9 m9 t9 u9 => ?_
        walk_at "rd"
        have b9 : But g H G8 := (c5.then t6).trans b8
        have gT9 : T9 ≠ g := g8.ne m9
        have H9 : H T9 = none := b9.none gT9 m9
        have W9 : W6 T9 = none := same_none s8 m9
        have e9 := b8 _ _ gF (t6 _ _ c6)
        have F9 : F0 ≠ T9 := fun z => by rw [← z, e9] at m9; cases m9
        have tk : fs.map fd3 ++ [fd3 (nm, ow.1, c)] = (fs ++ [(nm, ow.1, c)]).map fd3 := by rw [List.map_append]; rfl
        refine Rd.appTo (t9 _ _ e9) li ?_
        refine ⟨upd W6 T9 (.tup [.str nm, .str ow.1, .ref T']), fs ++ [(nm, ow.1, c)], items ++ [.ref T9], _, _, rfl, c1.put H9 W9, c2'.trans (same_upd W9), ?_, (upd_ne F9).trans c4, ?_, upd_same, ?_, ?_, ?_, ?_⟩
        · intro x o e
          by_cases z : x = T9
          · rw [z, upd_same] at e
            rw [z]
            cases e
            exact (upd_ne (Ne.symm F9)).trans u9
          · rw [upd_ne z] at e
            exact (upd_ne (fun y => by rw [y, c4] at e; cases e)).trans (t9 _ _ (s8 _ _ e))
        · intro x o ne e
          exact (upd_ne (ne_of_none e HF)).trans (t9 _ _ (b9 _ _ ne e))
        · rw [← tk]
          exact dqAll_app (.cons (.tup (.inl (.inl upd_same)) (.cons (.str _) (.cons (.str _) (.cons (Dq.same (same_upd W9) _ _ c8) .nil)))) .nil) (Dq.sameAll (same_upd W9) _ _ c7)
        · rw [List.map_append, a8, List.take_add_one, hnm]; rfl
        · intro f hf
          rcases List.mem_append.mp hf with hf | hf
          · exact a9 f hf
          · cases List.mem_singleton.mp hf
            exact ⟨List.mem_map.mpr ⟨ow, List.mem_of_getElem? how, rfl⟩, c9, c10, by show c.cnt ≤ 12; omega⟩
        · obtain ⟨x, y, z, e, r⟩ := g8.same t9
          refine ⟨x, y, z, (upd_ne (Ne.symm gF)).trans e, r.1, r.2.1, r.2.2.1, r.2.2.2.1, ?_⟩
          have := r.2.2.2.2
          omega
  · obtain ⟨W', fs, items, o7, o8, rfl, a1, a2, a3, a4, a5, a6, a7, a8, a9, a10⟩ := h
    rw [List.length_map, List.take_length] at a8
    rw [List.length_map] at a10
    walk_at "rd"
    refine mkLs fun T9 G9 m9 t9 u9 => ?_
    have W9 : W' T9 = none := same_none a3 m9
    have F9 : T9 ≠ F0 := fun z => by rw [z, a6] at m9; cases m9
    refine hQ ⟨rs, os, fs⟩ T9 R O F0 (upd W' F0 (.lst items)) G9 ⟨⟨k, hk, hrs.symm⟩, ho, by rw [hns]; exact a8, by rw [hns]; exact a9⟩ (a5.then t9) (a1.put HF a4) ((same_put a3 a6).trans t9) ((a10.same t9).less (by omega)) u9 ((upd_ne F9).trans W9) (a5.none (a10.ne m9) m9) ?_ ?_ ?_
    · exact .lst (.inl (.inl ((same_upd a4) _ _ (a2 _ _ RA)))) (dqAll_strs rs)
    · exact Dq.same (a2.trans (same_upd a4)) _ _ dA
    · exact .lst (.inl (.inl upd_same)) (Dq.sameAll (same_upd a4) _ _ a7)
end

end Bs
set_option Elab.async false
set_option linter.all false
set_option maxRecDepth 100000
set_option maxHeartbeats 200000
/-! the program's checks, of data that fit -/
namespace Bs
open PySem PySem.Spec PyProof.Rows L2 Gd Er
local macro_rules | `(tactic| walk_at "rdc") => `(tactic| (first
  | assumption | exact Or.inl ⟨by omega, by omega⟩ | exact Or.inr ⟨by omega, by omega⟩ | exact Or.inl ⟨by decide, by decide⟩ | exact Or.inr ⟨by decide, by decide⟩
  | (show (0 : Int) < _; omega) | (show (0 : Int) < _; decide) | decide | omega | exact ⟨by decide, by decide, by decide⟩ | exact ⟨by decide, by decide +kernel⟩ | decide +kernel))
local macro_rules | `(tactic| walk_at "rdh") => `(tactic| (first | assumption | exact upd_same))
local macro_rules | `(tactic| walk_at "rd1") => `(tactic| (first
  | (with_reducible refine Rd.var rfl ?_) | (with_reducible refine Rd.con ?_) | (with_reducible refine Rd.op ?_) | (with_reducible refine Rd.un ?_) | (with_reducible refine Rd.i0 ?_) | (with_reducible refine Rd.iu ?_)
  | (with_reducible refine Rd.nil ?_) | (with_reducible refine Rd.cons ?_) | (with_reducible refine Rd.cb ?_) | (with_reducible refine Rd.asg ?_) | (with_reducible refine Rd.name ?_) | (with_reducible refine Rd.sub ?_) | (with_reducible refine Rd.rev ?_) | (with_reducible refine Rd.drop ?_) | (with_reducible refine Rd.bm ?_) | (with_reducible refine Rd.par ?_) | (with_reducible refine Rd.p2 ?_) | (with_reducible refine Rd.sl ?_) | (with_reducible refine Rd.noPart ?_) | (with_reducible refine Rd.part ?_) | (with_reducible refine Rd.int_ ?_) | (with_reducible refine Rd.seq ?_)
  | (with_reducible refine Rd.ret ?_) | (with_reducible refine Rd.retN ?_) | (with_reducible refine Rd.nxt ?_) | (with_reducible refine Rd.tst ?_) | (with_reducible refine Rd.tb_ ?_) | (with_reducible refine Rd.tnot ?_)
  | (with_reducible refine Rd.tor ?_) | (with_reducible refine Rd.tand ?_) | (with_reducible refine Rd.ifs ?_) | (with_reducible refine Rd.ife ?_) | (with_reducible refine Rd.lst ?_) | (with_reducible refine Rd.tup ?_)
  | (with_reducible refine Rd.int1 ?_) | (with_reducible refine Rd.bl ?_) | (with_reducible refine Rd.call ?_)
  | (with_reducible refine Rd.mx ?_) | (with_reducible refine Rd.bits ?_) | (with_reducible refine Rd.forR ?_) | (with_reducible refine Rd.forL ?_) | (with_reducible refine Rd.lcR ?_) | (with_reducible refine Rd.lcL ?_) | (with_reducible refine Rd.lcT ?_) | (with_reducible refine Rd.chain ?_) | (with_reducible refine Rd.notv ?_) | (with_reducible refine Rd.forS ?_) | (with_reducible refine Rd.lcS ?_) | (with_reducible refine Rd.str_ ?_) | (with_reducible refine Rd.forE ?_) | (with_reducible refine Rd.lcI ?_) | (with_reducible refine Rd.tgt ?_) | (with_reducible refine Rd.gcons ?_) | (with_reducible refine Rd.gnil ?_) | (with_reducible refine Rd.fld ?_) | (with_reducible refine Rd.sfld ?_) | (with_reducible refine Rd.meth ?_) | (with_reducible refine Rd.forT ?_)
  | ((with_reducible refine' Rd.ixLT ?rh ?ra ?_); (case rh => walk_at "rdh"); (case ra => rfl))
  | ((with_reducible refine' Rd.setL ?rh ?ra ?_); (case rh => walk_at "rdh"); (case ra => rfl))
  | ((with_reducible refine Rd.ic ?rc ?_); (case rc => walk_at "rdc"))))
local macro_rules | `(tactic| walk_at "rd") => `(tactic| (repeat (walk_at "rd1")))


/-! ### names, owners: the checks, of data that fit -/
def letters : Str := "abcdefghijklmnopqrstuvwxyz"
def NameOk (x : Str) : Prop := 1 ≤ x.length ∧ x.length ≤ 8 ∧ ∀ c ∈ x.cps.toList, c ∈ letters.cps.toList
instance (x : Str) : Decidable (NameOk x) := inferInstanceAs (Decidable (_ ∧ _ ∧ _))
theorem inV_str {x : Str} : ∀ {xs : List Str}, inV (.str x) (xs.map V.str) = decide (x ∈ xs)
  | [] => rfl
  | y :: xs => by
    show (eqV (.str y) (.str x) || inV (.str x) (xs.map V.str)) = _
    rw [inV_str]
    show ((y == x) || _) = _
    by_cases e : y = x
    · rw [e, beq_self_eq_true]
      simp
    · rw [beq_eq_false_iff_ne.mpr e]
      simp [Ne.symm e]
theorem flat_str : ∀ xs : List Str, (xs.map V.str).all flatV = true
  | [] => rfl
  | _ :: xs => flat_str xs
section
variable {K : PySem.W.Frag} {H : Hp} {Q : VK}
theorem inStr {neg : Bool} {x : Str} {p : Addr} {xs : List Str} (h : SqL K H p (xs.map V.str)) (q : Q (.bl (if neg then !decide (x ∈ xs) else decide (x ∈ xs))) H) : rIn K neg (.str x) (.ref p) H Q :=
  Rd.inSeq h rfl (flat_str xs) (by rw [inV_str]; exact q)
theorem eqNil {a b : Addr} (ha : SqL K H a []) (hb : SqL K H b []) (q : Q (.bl true) H) : rEqD K (.ref a) (.ref b) H Q := ⟨.list [], .list [], .lst ha .nil, .lst hb .nil, by decide, by decide, q⟩
theorem neNil {a b : Addr} (ha : SqL K H a []) (hb : SqL K H b []) (q : Q (.bl false) H) : rNeD K (.ref a) (.ref b) H Q := ⟨.list [], .list [], .lst ha .nil, .lst hb .nil, by decide, by decide, q⟩
end
theorem notSame {x y : V} (h : x = y) : (!decide (x = y)) = false := by rw [decide_eq_true h]; rfl
theorem isiSq {K : PySem.W.Frag} {H : Hp} {Q : VK} {a : Addr} {xs : List V} (h : SqL K H a xs) (q : Q (.bl true) H) : rIsi K [.ref a, .ty "list"] H Q := by
  have ty : TyX K H (.ref a) (.type "list") := by
    rcases h with (hs | ⟨o, hs⟩) | ⟨o, its, n, hk, hc, _⟩
    · exact .base (.lst hs)
    · exact .base (.frz hs)
    · exact .kList hk hc
  exact ⟨_, _, _, _, true, rfl, .ty _, ty, kit_ty (by decide +kernel), q⟩
theorem strs_inv {K : PySem.W.Frag} {H : Hp} : ∀ {ys : List V} {xs : List Str}, DqAll K H ys (xs.map PyData.str) → ys = xs.map V.str
  | [], [], .nil => rfl
  | _ :: ys, x :: xs, .cons h1 h2 => by
    cases h1
    rw [List.map_cons, strs_inv h2]
structure TxtN (mg : Str → Option Value) : Prop where
  m_isinstance : mg "isinstance" = none
  m_list : mg "list" = none
  m_tuple : mg "tuple" = none
  m_str : mg "str" = none
  m_bool : mg "bool" = none
  m_len : mg "len" = none
  m_set : mg "set" = none
  m_enumerate : mg "enumerate" = none
  g_LETTERS : ∃ t, mg "LETTERS" = some (.str letters t)
  g_MOST_LETTERS : ∃ t, mg "MOST_LETTERS" = some (.int 8 t)
  g_MOST_RIGHTS : ∃ t, mg "MOST_RIGHTS" = some (.int 5 t)
  g_MOST_OWNERS : ∃ t, mg "MOST_OWNERS" = some (.int 5 t)
  g_MOST_FUNCTIONS : ∃ t, mg "MOST_FUNCTIONS" = some (.int 6 t)
abbrev s_is_name : Stmt := top 15
abbrev N_is_name : List Str := ["value", "letter"]
theorem sc_is_name : FnScope N_is_name ["value"] (defScope s_is_name) := ⟨rfl, rfl, rfl, by decide +kernel, rfl, by decide +kernel, by decide +kernel⟩
abbrev s_check_size : Stmt := top 16
abbrev N_check_size : List Str := ["value", "most"]
theorem sc_check_size : FnScope N_check_size ["value", "most"] (defScope s_check_size) := ⟨rfl, rfl, rfl, by decide +kernel, rfl, by decide +kernel, by decide +kernel⟩
abbrev s_is_owner : Stmt := top 17
abbrev N_is_owner : List Str := ["value", "rights", "right"]
theorem sc_is_owner : FnScope N_is_owner ["value", "rights"] (defScope s_is_owner) := ⟨rfl, rfl, rfl, by decide +kernel, rfl, by decide +kernel, by decide +kernel⟩
abbrev s_first_names : Stmt := top 23
abbrev N_first_names : List Str := ["functions", "one"]
theorem sc_first_names : FnScope N_first_names ["functions"] (defScope s_first_names) := ⟨rfl, rfl, rfl, by decide +kernel, rfl, by decide +kernel, by decide +kernel⟩
def sp_name : Sp := fun vs H Q _ => ∃ x : Str, vs = [.str x] ∧ NameOk x ∧ ∀ H', Same H H' → Q (.bl true) H'
def sp_size (K : PySem.W.Frag) : Sp := fun vs H Q _ => ∃ (a : Addr) (xs : List V) (m : Nat), vs = [.ref a, .int (m : Int)] ∧ SqL K H a xs ∧ 1 ≤ xs.length ∧ xs.length ≤ m ∧ Q .non H
section
variable {P : Program} {w : World} {K : PySem.W.Frag} {mg : Str → Option Value} {base : Heap} {f f_n : Addr} {fd fd_n : FuncData}
theorem ok_name (F : FnP K "is_name" s_is_name f fd) (T : TxtN mg) : FnOk P w K mg base CX0 1 f fd ["value"] sp_name := by
  obtain ⟨tL, mg_LETTERS⟩ := T.g_LETTERS
  obtain ⟨tM, mg_MOST_LETTERS⟩ := T.g_MOST_LETTERS
  refine F.ok sc_is_name (fun vs H Q E h => ?_) (fun cdv A outer s H vs Q E hr h => ?_)
  · obtain ⟨x, rfl, _⟩ := h
    rfl
  obtain ⟨x, rfl, ⟨h1, h2, h3⟩, hQ⟩ := h
  refine ⟨_, PSs.nox (pss_cons (ps_if (PW.pt (pw_or (pt_not (pt_val (pe_callB (show CallR _ (.builtin "isinstance") (rIsi K) from call_isi) (by rfl) T.m_isinstance (by decide +kernel) (pa_cons (pv 0) (pa_cons (pe_bltn (v := .ty "str") (by rfl) T.m_str (by decide +kernel) rfl) pa_nil))))) (pw_or1 (pt_not (pt_chain op_le op_le pe_int (pe_callB Rd.c_lens (by rfl) T.m_len boot_len (pa_cons (pv 0) pa_nil)) (pe_glob (v := .int 8) rfl mg_MOST_LETTERS ⟨_, rfl⟩)))))) (pss_one (ps_ret pe_bl)) pss_nil)
    (pss_one (ps_ret (pe_cmpR (show OpR _ (compareOp .Eq) (rEqD K) from op_eqD hr.units) (pe_lc (own := [("letter", 1)]) (g := gName 1) rfl sc_is_name.nd (pi_str (pv 0)) (blkOk_by (N := N_is_name) (sc := defScope s_is_name) (by decide +kernel)) (fun _ _ _ _ _ => pg_name (i := 1) sc_is_name.nd rfl (Or.inl rfl)) (fun _ _ _ _ _ => (pts_one (pt_cmpR Rd.op_nis (pv 1) (pe_glob (v := .str "abcdefghijklmnopqrstuvwxyz") rfl mg_LETTERS ⟨_, rfl⟩) (by rfl)))) (fun _ _ _ _ _ => (pv 1))) (pe_lst pa_nil) (nomark _))))), ?_⟩
  walk_at "rd"
  refine isiD (.str x) (show kitB "str" "str" = some true by decide +kernel) ?_
  walk_at "rd"
  refine Rd.brF rfl ?_
  walk_at "rd"
  refine Rd.lens (by omega) ?_
  walk_at "rd"
  refine Rd.brT (decide_eq_true (by omega)) ?_
  walk_at "rd"
  refine Rd.brF (by rw [decide_eq_true (show (x.length : Int) ≤ 8 by omega)]; rfl) ?_
  walk_at "rd"
  intro D hD
  refine Rd.byCJ walk_str (fun i H' => Same H H' ∧ H' D = some (.lst [])) ⟨same_upd hD, upd_same⟩ (fun _ _ _ _ => trivial) (fun i v H1 H' hi h hy => ?_) (fun H' h => ?_)
  · obtain ⟨rfl, c, hc, rfl⟩ := hy
    obtain ⟨s1, e1⟩ := h
    refine Rd.turnIf rfl ?_
    walk_at "rd"
    refine ⟨c, letters, rfl, rfl, ?_⟩
    have hm : c ∈ x.cps.toList := Array.mem_toList_iff.mpr (Array.mem_of_getElem? hc)
    refine Rd.bl (Rd.brF (by rw [decide_eq_true (h3 c hm)]; rfl) ⟨s1, e1⟩)
  · obtain ⟨s1, e1⟩ := h
    walk_at "rd"
    refine mkLs fun p H2 n2 s2 e2 => ?_
    exact eqNil (.inl (.inl (s2 _ _ e1))) (.inl (.inl e2)) (hQ H2 (s1.trans s2))
theorem ok_size (F : FnP K "check_size" s_check_size f fd) (T : TxtN mg) : FnOk P w K mg base CX0 1 f fd ["value", "most"] (sp_size K) := by
  refine F.ok sc_check_size (fun vs H Q E h => ?_) (fun cdv A outer s H vs Q E hr h => ?_)
  · obtain ⟨a, xs, m, rfl, _⟩ := h
    rfl
  obtain ⟨a, xs, m, rfl, hs, h1, h2, hQ⟩ := h
  refine ⟨_, PSs.nox (pss_one (ps_if (PW.pt (pw_or (pt_not (pt_val (pe_callB (show CallR _ (.builtin "isinstance") (rIsi K) from call_isi) (by rfl) T.m_isinstance (by decide +kernel) (pa_cons (pv 0) (pa_cons (pe_bltn (v := .ty "list") (by rfl) T.m_list (by decide +kernel) rfl) pa_nil))))) (pw_or1 (pt_not (pt_chain op_le op_le pe_int (pe_callB (show CallR _ (.builtin "len") (Rd.rLn K) from Rd.c_len) (by rfl) T.m_len boot_len (pa_cons (pv 0) pa_nil)) (pv 1)))))) (pss_one ps_never) pss_nil)), ?_⟩
  walk_at "rd"
  refine isiSq hs ?_
  walk_at "rd"
  refine Rd.brF rfl ?_
  walk_at "rd"
  refine Rd.lnL hs ?_
  walk_at "rd"
  refine Rd.brT (decide_eq_true (by omega)) ?_
  walk_at "rd"
  refine Rd.brF (by rw [decide_eq_true (show (xs.length : Int) ≤ (m : Int) by omega)]; rfl) ?_
  exact hQ
theorem own_inv {H : Hp} {v : V} {o : Str × List Str} (h : Dq K H v (od o)) : ∃ a l, v = .ref a ∧ SqT K H a [.str o.1, .ref l] ∧ SqL K H l (o.2.map V.str) := by
  obtain ⟨a, xs, rfl, ha, hx⟩ := tup_inv h
  cases hx with
  | cons h1 h2 =>
    cases h1
    cases h2 with
    | cons h3 h4 =>
      cases h4
      obtain ⟨l, ys, rfl, hl, hy⟩ := lst_inv h3
      rw [strs_inv hy] at hl
      exact ⟨a, l, rfl, ha, hl⟩
def OwnerOk (rs : List Str) (o : Str × List Str) : Prop := NameOk o.1 ∧ o.2.Nodup ∧ (∀ r, r ∈ o.2 → r ∈ rs) ∧ o.2.length ≤ 100
def sp_owner (K : PySem.W.Frag) : Sp := fun vs H Q _ => ∃ (v : V) (R : Addr) (rs : List Str) (o : Str × List Str), vs = [v, .ref R] ∧ Dq K H v (od o) ∧ SqL K H R (rs.map V.str) ∧ OwnerOk rs o ∧ ∀ H', Same H H' → Q (.bl true) H'
theorem ok_owner (F : FnP K "is_owner" s_is_owner f fd) (G_is_name : FnOk P w K mg base CX0 1 f_n fd_n ["value"] sp_name) (g_is_name : mg "is_name" = some (.ref f_n)) (k_is_name : PySem.W.keepIn K (.ref f_n) = true) (b_is_name : Binds K fd_n ["value"] []) (T : TxtN mg) :
    FnOk P w K mg base CX0 2 f fd ["value", "rights"] (sp_owner K) := by
  refine F.ok sc_is_owner (fun vs H Q E h => ?_) (fun cdv A outer s H vs Q E hr h => ?_)
  · obtain ⟨v, R, rs, o, rfl, _⟩ := h
    rfl
  obtain ⟨v, R, rs, o, rfl, hd, hR, ⟨h1, h2, h3, h4⟩, hQ⟩ := h
  obtain ⟨a, l, rfl, ha, hl1⟩ := own_inv hd
  refine ⟨_, PSs.nox (pss_cons (ps_if (PW.pt (pw_or (pt_not (pt_val (pe_callB (show CallR _ (.builtin "isinstance") (rIsi K) from call_isi) (by rfl) T.m_isinstance (by decide +kernel) (pa_cons (pv 0) (pa_cons (pe_bltn (v := .ty "tuple") (by rfl) T.m_tuple (by decide +kernel) rfl) pa_nil))))) (pw_or (pt_cmpR op_ne (pe_callB (show CallR _ (.builtin "len") (Rd.rLn K) from Rd.c_len) (by rfl) T.m_len boot_len (pa_cons (pv 0) pa_nil)) pe_int (nomark _)) (pw_or (pt_not (pt_val (pe_call G_is_name (hr.mono (by decide)) rfl g_is_name k_is_name b_is_name .nil pass0 (pa_cons (pe_ix (show IxR _ (rIxT K) from ix_tup) (pv 0) pe_int (fun _ _ => rfl)) pa_nil)))) (pw_or1 (pt_not (pt_val (pe_callB (show CallR _ (.builtin "isinstance") (rIsi K) from call_isi) (by rfl) T.m_isinstance (by decide +kernel) (pa_cons (pe_ix (show IxR _ (rIxT K) from ix_tup) (pv 0) pe_int (fun _ _ => rfl)) (pa_cons (pe_bltn (v := .ty "list") (by rfl) T.m_list (by decide +kernel) rfl) pa_nil)))))))))) (pss_one (ps_ret pe_bl)) pss_nil)
    (pss_cons (ps_if (pt_cmpR (show OpR _ (compareOp .NotEq) (rNeD K) from op_neD hr.units) (pe_lc (own := [("right", 2)]) (g := gName 2) rfl sc_is_owner.nd (Rd.pi_listK (K := K) rfl (pe_ix (show IxR _ (rIxT K) from ix_tup) (pv 0) pe_int (fun _ _ => rfl))) (blkOk_by (N := N_is_owner) (sc := defScope s_is_owner) (by decide +kernel)) (fun _ _ _ _ _ => pg_name (i := 2) sc_is_owner.nd rfl (Or.inl rfl)) (fun _ _ _ _ _ => (pts_one (pt_cmpR (show OpR _ (compareOp .NotIn) (rIn K true) from op_notIn_seq) (pv 2) (pv 1) (by rfl)))) (fun _ _ _ _ _ => (pv 2))) (pe_lst pa_nil) (nomark _)) (pss_one (ps_ret pe_bl)) pss_nil)
    (pss_one (ps_ret (pe_cmpR op_eq (SetS.pe_lenS (K := K) rfl (by rfl) T.m_len (by rfl) T.m_set (pe_ix (show IxR _ (rIxT K) from ix_tup) (pv 0) pe_int (fun _ _ => rfl))) (pe_callB (show CallR _ (.builtin "len") (Rd.rLn K) from Rd.c_len) (by rfl) T.m_len boot_len (pa_cons (pe_ix (show IxR _ (rIxT K) from ix_tup) (pv 0) pe_int (fun _ _ => rfl)) pa_nil)) (nomark _)))))), ?_⟩
  walk_at "rd"
  refine isiD hd (show kitB "tuple" "tuple" = some true by decide +kernel) ?_
  walk_at "rd"
  refine Rd.brF rfl ?_
  walk_at "rd"
  refine Rd.lnT ha ?_
  walk_at "rd"
  refine Rd.ne_ rfl (Rd.bl (Rd.brF (notSame rfl) ?_))
  walk_at "rd"
  refine Rd.ixT (v := .str o.1) (i := 0) ha rfl ?_
  walk_at "rd"
  refine ⟨o.1, rfl, h1, fun H1 s1 => ?_⟩
  walk_at "rd"
  refine Rd.brF rfl ?_
  walk_at "rd"
  refine Rd.ixT (v := .ref l) (i := 1) (sqT_same s1 ha) rfl ?_
  walk_at "rd"
  refine isiSq (s1.seq hl1) ?_
  walk_at "rd"
  refine Rd.brF rfl ?_
  walk_at "rd"
  refine Rd.ixT (v := .ref l) (i := 1) (sqT_same s1 ha) rfl ?_
  refine Rd.l1 (s1.seq hl1) fun D hD => ?_
  refine Rd.byCL (xs := o.2.map V.str) (fun i H' => Same H1 H' ∧ H' D = some (.lst [])) ⟨same_upd hD, upd_same⟩ (fun i H' hi h => h.1.seq (s1.seq hl1)) (fun i x H' hx h => ?_) (fun H' h => ?_)
  · obtain ⟨s2, e2⟩ := h
    rw [List.getElem?_map] at hx
    obtain ⟨r, hr, rfl⟩ := Option.map_eq_some_iff.mp hx
    refine Rd.turnIf rfl ?_
    walk_at "rd"
    refine inStr (s2.seq (s1.seq hR)) ?_
    refine Rd.bl (Rd.brF ?_ ⟨s2, e2⟩)
    rw [if_pos rfl, decide_eq_true (h3 r (List.mem_of_getElem? hr))]
    rfl
  · obtain ⟨s2, e2⟩ := h
    walk_at "rd"
    refine mkLs fun p H3 n3 s3 e3 => ?_
    refine neNil (.inl (.inl (s3 _ _ e2))) (.inl (.inl e3)) ?_
    walk_at "rd"
    refine Rd.brF rfl ?_
    walk_at "rd"
    have s13 := (s1.trans s2).trans s3
    refine SetS.lenS (Rd.op (Rd.var rfl (Rd.con (Rd.ixT (v := .ref l) (i := 1) (sqT_same s13 ha) rfl ⟨l, o.2, rfl, s13.seq hl1, h2, h4, ?_⟩))))
    walk_at "rd"
    refine Rd.ixT (v := .ref l) (i := 1) (sqT_same s13 ha) rfl ?_
    walk_at "rd"
    refine Rd.lnL (s13.seq hl1) (Rd.eq_ rfl ?_)
    rw [List.length_map, decide_eq_true rfl]
    exact hQ H3 s13
end

end Bs
set_option Elab.async false
set_option linter.all false
set_option maxRecDepth 100000
set_option maxHeartbeats 200000
/-! the program's checks: steps -/
namespace Bs
open PySem PySem.Spec PyProof.Rows L2 Gd Er
local macro_rules | `(tactic| walk_at "rdc") => `(tactic| (first
  | assumption | exact Or.inl ⟨by omega, by omega⟩ | exact Or.inr ⟨by omega, by omega⟩ | exact Or.inl ⟨by decide, by decide⟩ | exact Or.inr ⟨by decide, by decide⟩
  | (show (0 : Int) < _; omega) | (show (0 : Int) < _; decide) | decide | omega | exact ⟨by decide, by decide, by decide⟩ | exact ⟨by decide, by decide +kernel⟩ | decide +kernel))
local macro_rules | `(tactic| walk_at "rdh") => `(tactic| (first | assumption | exact upd_same))
local macro_rules | `(tactic| walk_at "rd1") => `(tactic| (first
  | (with_reducible refine Rd.var rfl ?_) | (with_reducible refine Rd.con ?_) | (with_reducible refine Rd.op ?_) | (with_reducible refine Rd.un ?_) | (with_reducible refine Rd.i0 ?_) | (with_reducible refine Rd.iu ?_)
  | (with_reducible refine Rd.nil ?_) | (with_reducible refine Rd.cons ?_) | (with_reducible refine Rd.cb ?_) | (with_reducible refine Rd.asg ?_) | (with_reducible refine Rd.name ?_) | (with_reducible refine Rd.sub ?_) | (with_reducible refine Rd.rev ?_) | (with_reducible refine Rd.drop ?_) | (with_reducible refine Rd.bm ?_) | (with_reducible refine Rd.par ?_) | (with_reducible refine Rd.p2 ?_) | (with_reducible refine Rd.sl ?_) | (with_reducible refine Rd.noPart ?_) | (with_reducible refine Rd.part ?_) | (with_reducible refine Rd.int_ ?_) | (with_reducible refine Rd.seq ?_)
  | (with_reducible refine Rd.ret ?_) | (with_reducible refine Rd.retN ?_) | (with_reducible refine Rd.nxt ?_) | (with_reducible refine Rd.tst ?_) | (with_reducible refine Rd.tb_ ?_) | (with_reducible refine Rd.tnot ?_)
  | (with_reducible refine Rd.tor ?_) | (with_reducible refine Rd.tand ?_) | (with_reducible refine Rd.ifs ?_) | (with_reducible refine Rd.ife ?_) | (with_reducible refine Rd.lst ?_) | (with_reducible refine Rd.tup ?_)
  | (with_reducible refine Rd.int1 ?_) | (with_reducible refine Rd.bl ?_) | (with_reducible refine Rd.call ?_)
  | (with_reducible refine Rd.mx ?_) | (with_reducible refine Rd.bits ?_) | (with_reducible refine Rd.forR ?_) | (with_reducible refine Rd.forL ?_) | (with_reducible refine Rd.lcR ?_) | (with_reducible refine Rd.lcL ?_) | (with_reducible refine Rd.lcT ?_) | (with_reducible refine Rd.chain ?_) | (with_reducible refine Rd.notv ?_) | (with_reducible refine Rd.forS ?_) | (with_reducible refine Rd.lcS ?_) | (with_reducible refine Rd.str_ ?_) | (with_reducible refine Rd.forE ?_) | (with_reducible refine Rd.lcI ?_) | (with_reducible refine Rd.tgt ?_) | (with_reducible refine Rd.gcons ?_) | (with_reducible refine Rd.gnil ?_) | (with_reducible refine Rd.fld ?_) | (with_reducible refine Rd.sfld ?_) | (with_reducible refine Rd.meth ?_) | (with_reducible refine Rd.forT ?_)
  | ((with_reducible refine' Rd.ixLT ?rh ?ra ?_); (case rh => walk_at "rdh"); (case ra => rfl))
  | ((with_reducible refine' Rd.setL ?rh ?ra ?_); (case rh => walk_at "rdh"); (case ra => rfl))
  | ((with_reducible refine Rd.ic ?rc ?_); (case rc => walk_at "rdc"))))
local macro_rules | `(tactic| walk_at "rd") => `(tactic| (repeat (walk_at "rd1")))


/-! ### is_step, is_body: of steps that fit -/
abbrev s_is_step : Stmt := top 18
abbrev N_is_step : List Str := ["value", "rights", "names", "marked", "word", "rest", "known"]
theorem sc_is_step : FnScope N_is_step ["value", "rights", "names", "marked"] (defScope s_is_step) := ⟨rfl, rfl, rfl, by decide +kernel, rfl, by decide +kernel, by decide +kernel⟩
abbrev s_is_body : Stmt := top 19
abbrev N_is_body : List Str := ["value", "rights", "names", "marked", "step"]
theorem sc_is_body : FnScope N_is_body ["value", "rights", "names", "marked"] (defScope s_is_body) := ⟨rfl, rfl, rfl, by decide +kernel, rfl, by decide +kernel, by decide +kernel⟩
def Stp.word : Stp → Str
  | .call _ => "call"
  | .check _ => "check"
  | .tail _ => "tail"
  | .back => "back"
  | .either _ _ => "either"
  | .loop _ => "loop"
  | .block _ _ => "block"
def Stp.tl : Stp → List PyData
  | .call n => [.str n]
  | .check n => [.str n]
  | .tail n => [.str n]
  | .back => []
  | .either a b => [.list a.ds, .list b.ds]
  | .loop a => [.list a.ds]
  | .block m a => [.bool m, .list a.ds]
theorem step_d (s : Stp) : s.d = .tuple (.str s.word :: s.tl) := by
  cases s <;> (rw [Stp.d]; rfl)
theorem step_inv {K : PySem.W.Frag} {H : Hp} {v : V} {s : Stp} (h : Dq K H v s.d) : ∃ a tl, v = .ref a ∧ SqT K H a (.str s.word :: tl) ∧ DqAll K H tl s.tl := by
  rw [step_d] at h
  obtain ⟨a, xs, rfl, ha, hx⟩ := tup_inv h
  cases hx with
  | cons h1 h2 =>
    cases h1
    exact ⟨a, _, rfl, ha, h2⟩
theorem cut_tail {x : V} {tl : List V} : cutV (x :: tl) (some 1) none = tl := by
  unfold cutV
  rw [show (1 : Int) = ((1 : Nat) : Int) from rfl, HT.sIx_nat, HT.sIx_none, List.length_cons, show min 1 (tl.length + 1) = 1 by omega]
  show tl.take (tl.length + 1 - 1) = tl
  rw [Nat.add_sub_cancel, List.take_length]
theorem slTail {K : PySem.W.Frag} {H : Hp} {Q : VK} {a : Addr} {x : V} {tl : List V} (h : SqT K H a (x :: tl)) (q : ∀ p H', H p = none → Same H H' → H' p = some (.tup tl) → Q (.ref p) H') : rSlT K (.ref a) (some 1) none H Q := by
  refine ⟨a, x :: tl, rfl, h, fun z => ?_, fun p hp => ?_⟩
  · have z1 := z.1
    rw [show (1 : Int) = ((1 : Nat) : Int) from rfl, HT.sIx_nat, List.length_cons] at z1
    omega
  · rw [cut_tail]
    exact q p _ hp (same_upd hp) upd_same
theorem at0 {x : V} {tl : List V} : atI (x :: tl) 0 = some x := show atI _ ((0 : Nat) : Int) = _ from atI_nat rfl
theorem at1 {x y : V} {tl : List V} : atI (x :: y :: tl) 1 = some y := show atI _ ((1 : Nat) : Int) = _ from atI_nat rfl
def sp_isstep (K : PySem.W.Frag) (k : Nat) : Sp := fun vs H Q _ => ∃ (v : V) (R N : Addr) (m : Bool) (s : Stp) (rs ns : List Str), vs = [v, .ref R, .ref N, .bl m] ∧ Dq K H v s.d ∧ SqL K H R (rs.map V.str) ∧ SqL K H N (ns.map V.str) ∧ s.ok rs ns m ∧ s.dp ≤ k ∧ ∀ H', Same H H' → Q (.bl true) H'
def sp_isbody (K : PySem.W.Frag) (k : Nat) : Sp := fun vs H Q _ => ∃ (v : V) (R N : Addr) (m : Bool) (b : Bdy) (rs ns : List Str), vs = [v, .ref R, .ref N, .bl m] ∧ Dq K H v b.d ∧ SqL K H R (rs.map V.str) ∧ SqL K H N (ns.map V.str) ∧ b.ok rs ns m ∧ b.dp ≤ k ∧ ∀ H', Same H H' → Q (.bl true) H'
def sp_isin (K : PySem.W.Frag) : Nat → Sp
  | 0 => sp_no
  | k + 1 => sp_isbody K k
theorem inT {w : Str} {l : List Str} (h : w ∈ l) : (if false = true then !decide (w ∈ l) else decide (w ∈ l)) = true := decide_eq_true h
theorem inF {w : Str} {l : List Str} (h : w ∉ l) : (if false = true then !decide (w ∈ l) else decide (w ∈ l)) = false := decide_eq_false h
theorem isIn {K : PySem.W.Frag} {k : Nat} {y : V} {R N : Addr} {m : Bool} {b : Bdy} {rs ns : List Str} {H : Hp} {Q : VK} {E : XK} (l : b.dp + 1 ≤ k) (hy : Dq K H y (.list b.ds)) (hR : SqL K H R (rs.map V.str)) (hN : SqL K H N (ns.map V.str)) (ok : b.ok rs ns m) (q : ∀ H', Same H H' → Q (.bl true) H') :
    sp_isin K k ([y, .ref R, .ref N, .bl m] ++ []) H Q E := by
  obtain ⟨k', rfl⟩ : ∃ k', k = k' + 1 := ⟨k - 1, by omega⟩
  exact ⟨y, R, N, m, b, rs, ns, rfl, hy, hR, hN, ok, by omega, q⟩
section
variable {P : Program} {w : World} {K : PySem.W.Frag} {mg : Str → Option Value} {base : Heap} {f f_b f_s : Addr} {fd fd_b fd_s : FuncData}
theorem ok_isbody1 (k : Nat) (F : FnP K "is_body" s_is_body f fd) (G_is_step : FnOk P w K mg base CX0 (2 * k + 1) f_s fd_s ["value", "rights", "names", "marked"] (sp_isstep K k)) (g_is_step : mg "is_step" = some (.ref f_s)) (k_is_step : PySem.W.keepIn K (.ref f_s) = true)
    (b_is_step : Binds K fd_s ["value", "rights", "names", "marked"] []) (T : TxtN mg) : FnOk P w K mg base CX0 (2 * k + 2) f fd ["value", "rights", "names", "marked"] (sp_isbody K k) := by
  refine F.ok sc_is_body (fun vs H Q E h => ?_) (fun cdv A outer s H vs Q E hr h => ?_)
  · obtain ⟨v, R, N, m, b, rs, ns, rfl, _⟩ := h
    rfl
  obtain ⟨v, R, N, m, b, rs, ns, rfl, hd, hR, hN, ok, dp, hQ⟩ := h
  rw [Bdy.d] at hd
  obtain ⟨a, xs, rfl, hl, hx⟩ := lst_inv hd
  rw [bdy_ds] at hx
  refine ⟨_, PSs.nox (pss_cons (ps_if (pt_not (pt_val (pe_callB (show CallR _ (.builtin "isinstance") (rIsi K) from call_isi) (by rfl) T.m_isinstance (by decide +kernel) (pa_cons (pv 0) (pa_cons (pe_bltn (v := .ty "list") (by rfl) T.m_list (by decide +kernel) rfl) pa_nil))))) (pss_one (ps_ret pe_bl)) pss_nil)
    (pss_one (ps_ret (pe_cmpR (show OpR _ (compareOp .Eq) (rEqD K) from op_eqD hr.units) (pe_lc (own := [("step", 4)]) (g := gName 4) rfl sc_is_body.nd (Rd.pi_listK (K := K) rfl (pv 0)) (blkOk_by (N := N_is_body) (sc := defScope s_is_body) (by decide +kernel)) (fun _ _ _ _ _ => pg_name (i := 4) sc_is_body.nd rfl (Or.inl rfl)) (fun _ _ _ _ _ => (pts_one (pt_not (pt_val (pe_call G_is_step (hr.mono (by omega)) rfl g_is_step k_is_step b_is_step .nil pass0 (pa_cons (pv 4) (pa_cons (pv 1) (pa_cons (pv 2) (pa_cons (pv 3) pa_nil))))))))) (fun _ _ _ _ _ => (pv 4))) (pe_lst pa_nil) (nomark _))))), ?_⟩
  walk_at "rd"
  refine isiSq hl ?_
  walk_at "rd"
  refine Rd.brF rfl ?_
  walk_at "rd"
  refine Rd.l1 hl fun D hD => ?_
  refine Rd.byCL (xs := xs) (fun i H' => Same H H' ∧ H' D = some (.lst [])) ⟨same_upd hD, upd_same⟩ (fun i H' hi h => h.1.seq hl) (fun i x H' hi h => ?_) (fun H' h => ?_)
  · obtain ⟨s1, e1⟩ := h
    obtain ⟨d, hd, hxd⟩ := dqAll_get hx hi
    rw [List.getElem?_map] at hd
    obtain ⟨st, hst, rfl⟩ := Option.map_eq_some_iff.mp hd
    have hm := List.mem_of_getElem? hst
    refine Rd.turnIf rfl ?_
    walk_at "rd"
    refine ⟨x, R, N, m, st, rs, ns, rfl, Dq.same s1 _ _ hxd, s1.seq hR, s1.seq hN, bdy_ok ok st hm, Nat.le_trans (bdy_dp hm) dp, fun H2 s2 => ?_⟩
    walk_at "rd"
    refine Rd.brF rfl ⟨s1.trans s2, s2 _ _ e1⟩
  · obtain ⟨s1, e1⟩ := h
    walk_at "rd"
    refine mkLs fun p H2 n2 s2 e2 => ?_
    exact eqNil (.inl (.inl (s2 _ _ e1))) (.inl (.inl e2)) (hQ H2 (s1.trans s2))
theorem ok_isstep1 (k : Nat) (F : FnP K "is_step" s_is_step f fd) (G_is_body : FnOk P w K mg base CX0 (2 * k) f_b fd_b ["value", "rights", "names", "marked"] (sp_isin K k)) (g_is_body : mg "is_body" = some (.ref f_b)) (k_is_body : PySem.W.keepIn K (.ref f_b) = true)
    (b_is_body : Binds K fd_b ["value", "rights", "names", "marked"] []) (T : TxtN mg) : FnOk P w K mg base CX0 (2 * k + 1) f fd ["value", "rights", "names", "marked"] (sp_isstep K k) := by
  refine F.ok sc_is_step (fun vs H Q E h => ?_) (fun cdv A outer s H vs Q E hr h => ?_)
  · obtain ⟨v, R, N, m, st, rs, ns, rfl, _⟩ := h
    rfl
  obtain ⟨v, R, N, m, st, rs, ns, rfl, hd, hR, hN, ok, dp, hQ⟩ := h
  refine ⟨_, PSs.nox (pss_cons (ps_if (PW.pt (pw_or (pt_not (pt_val (pe_callB (show CallR _ (.builtin "isinstance") (rIsi K) from call_isi) (by rfl) T.m_isinstance (by decide +kernel) (pa_cons (pv 0) (pa_cons (pe_bltn (v := .ty "tuple") (by rfl) T.m_tuple (by decide +kernel) rfl) pa_nil))))) (pw_or (pt_cmpR (show OpR _ (compareOp .Eq) (Tup0.rTup0 K) from Tup0.op_tup0 hr.units0) (pv 0) (pe_tup pa_nil) (nomark _)) (pw_or1 (pt_not (pt_val (pe_callB (show CallR _ (.builtin "isinstance") (rIsi K) from call_isi) (by rfl) T.m_isinstance (by decide +kernel) (pa_cons (pe_ix (show IxR _ (rIxT K) from ix_tup) (pv 0) pe_int (fun _ _ => rfl)) (pa_cons (pe_bltn (v := .ty "str") (by rfl) T.m_str (by decide +kernel) rfl) pa_nil))))))))) (pss_one (ps_ret pe_bl)) pss_nil)
    (pss_cons (ps_par (i := 4) (j := 5) (by rfl) sc_is_step.nd rfl rfl (by decide) rfl rfl (pa_cons (pe_ix (show IxR _ (rIxT K) from ix_tup) (pv 0) pe_int (fun _ _ => rfl)) (pa_cons (pe_slice (show L2.SlR _ (rSlT K) from sl_tup) (pv 0) (po_some pe_int) po_none) pa_nil)) (by rfl))
    (pss_cons (ps_if (pt_cmpR (show OpR _ (compareOp .In) (rIn K false) from op_in_seq) (pv 4) (pe_lst (pa_cons pe_str (pa_cons pe_str (pa_cons pe_str pa_nil)))) (by rfl)) (pss_cons (ps_set (i := 6) sc_is_step.nd rfl (by first | exact Or.inl rfl | exact Or.inr rfl) (pe_ifExp (pt_cmpR op_eq (pv 4) pe_str (nomark _)) (pv 1) (pv 2)))
    (pss_one (ps_ret (pe_and (pe_cmpR op_eq (pe_callB (show CallR _ (.builtin "len") (Rd.rLn K) from Rd.c_len) (by rfl) T.m_len boot_len (pa_cons (pv 5) pa_nil)) pe_int (nomark _)) (pe_and (pe_cmpR (show OpR _ (compareOp .In) (rIn K false) from op_in_seq) (pe_ix (show IxR _ (rIxT K) from ix_tup) (pv 5) pe_int (fun _ _ => rfl)) (pv 6) (by rfl)) (pe_one (pe_not (pe_and (pe_cmpR op_eq (pv 4) pe_str (nomark _)) (pe_one (pv 3)))))))))) pss_nil)
    (pss_cons (ps_if (pt_cmpR op_eq (pv 4) pe_str (nomark _)) (pss_one (ps_ret (pe_cmpR (show OpR _ (compareOp .Eq) (Tup0.rTup0 K) from Tup0.op_tup0 hr.units0) (pv 5) (pe_tup pa_nil) (nomark _)))) pss_nil)
    (pss_cons (ps_if (pt_cmpR op_eq (pv 4) pe_str (nomark _)) (pss_one (ps_ret (pe_and (pe_cmpR op_eq (pe_callB (show CallR _ (.builtin "len") (Rd.rLn K) from Rd.c_len) (by rfl) T.m_len boot_len (pa_cons (pv 5) pa_nil)) pe_int (nomark _)) (pe_and (pe_call G_is_body (hr.mono (by omega)) rfl g_is_body k_is_body b_is_body .nil pass0 (pa_cons (pe_ix (show IxR _ (rIxT K) from ix_tup) (pv 5) pe_int (fun _ _ => rfl)) (pa_cons (pv 1) (pa_cons (pv 2) (pa_cons (pv 3) pa_nil))))) (pe_one (pe_call G_is_body (hr.mono (by omega)) rfl g_is_body k_is_body b_is_body .nil pass0 (pa_cons (pe_ix (show IxR _ (rIxT K) from ix_tup) (pv 5) pe_int (fun _ _ => rfl)) (pa_cons (pv 1) (pa_cons (pv 2) (pa_cons (pv 3) pa_nil)))))))))) pss_nil)
    (pss_cons (ps_if (pt_cmpR op_eq (pv 4) pe_str (nomark _)) (pss_one (ps_ret (pe_and (pe_cmpR op_eq (pe_callB (show CallR _ (.builtin "len") (Rd.rLn K) from Rd.c_len) (by rfl) T.m_len boot_len (pa_cons (pv 5) pa_nil)) pe_int (nomark _)) (pe_one (pe_call G_is_body (hr.mono (by omega)) rfl g_is_body k_is_body b_is_body .nil pass0 (pa_cons (pe_ix (show IxR _ (rIxT K) from ix_tup) (pv 5) pe_int (fun _ _ => rfl)) (pa_cons (pv 1) (pa_cons (pv 2) (pa_cons (pv 3) pa_nil))))))))) pss_nil)
    (pss_cons (ps_if (PW.pt (pw_or (pt_cmpR op_ne (pv 4) pe_str (nomark _)) (pw_or (pt_cmpR op_ne (pe_callB (show CallR _ (.builtin "len") (Rd.rLn K) from Rd.c_len) (by rfl) T.m_len boot_len (pa_cons (pv 5) pa_nil)) pe_int (nomark _)) (pw_or1 (pt_not (pt_val (pe_callB (show CallR _ (.builtin "isinstance") (rIsi K) from call_isi) (by rfl) T.m_isinstance (by decide +kernel) (pa_cons (pe_ix (show IxR _ (rIxT K) from ix_tup) (pv 5) pe_int (fun _ _ => rfl)) (pa_cons (pe_bltn (v := .ty "bool") (by rfl) T.m_bool (by decide +kernel) rfl) pa_nil))))))))) (pss_one (ps_ret pe_bl)) pss_nil)
    (pss_one (ps_ret (pe_call G_is_body (hr.mono (by omega)) rfl g_is_body k_is_body b_is_body .nil pass0 (pa_cons (pe_ix (show IxR _ (rIxT K) from ix_tup) (pv 5) pe_int (fun _ _ => rfl)) (pa_cons (pv 1) (pa_cons (pv 2) (pa_cons (pe_or (pv 3) (pe_one (pe_ix (show IxR _ (rIxT K) from ix_tup) (pv 5) pe_int (fun _ _ => rfl)))) pa_nil)))))))))))))), ?_⟩
  obtain ⟨a, tl, rfl, ha, hx⟩ := step_inv hd
  walk_at "rd"
  refine isiD hd (by rw [step_d]; exact (show kitB "tuple" "tuple" = some true by decide +kernel)) ?_
  walk_at "rd"
  refine Rd.brF rfl ?_
  walk_at "rd"
  refine mkTs fun p1 H1 n1 s1 e1 => ?_
  refine Tup0.at_ (sqT_same s1 ha) (.inl (.inl e1)) ?_
  walk_at "rd"
  refine Rd.brF rfl ?_
  walk_at "rd"
  refine Rd.ixT (sqT_same s1 ha) at0 ?_
  walk_at "rd"
  refine isiD (.str st.word) (show kitB "str" "str" = some true by decide +kernel) ?_
  walk_at "rd"
  refine Rd.brF rfl ?_
  walk_at "rd"
  refine Rd.ixT (sqT_same s1 ha) at0 ?_
  walk_at "rd"
  refine slTail (sqT_same s1 ha) fun p2 H2 n2 s2 e2 => ?_
  walk_at "rd"
  refine mkLs fun p3 H3 n3 s3 e3 => ?_
  have e23 := s3 _ _ e2
  have s13 := (s1.trans s2).trans s3
  have hR3 := s13.seq hR
  have hN3 := s13.seq hN
  have hx3 := Dq.sameAll s13 _ _ hx
  refine inStr (xs := ["call", "check", "tail"]) (.inl (.inl e3)) ?_
  cases st with
  | call n =>
    rw [show (Stp.call n).word = ("call" : Str) from rfl] at *
    cases hx3 with
    | cons h1 h2 =>
      cases h1
      cases h2
      rw [Stp.ok] at ok
      refine Rd.bl (Rd.brT (inT List.mem_cons_self) ?_)
      walk_at "rd"
      refine Rd.eq_ rfl (Rd.bl (Rd.brF (by decide) ?_))
      walk_at "rd"
      refine Rd.andv ?_
      walk_at "rd"
      refine Rd.lnT (.inl (.inl e23)) ?_
      walk_at "rd"
      refine Rd.eq_ rfl (Rd.bl (Rd.brT (decide_eq_true rfl) (Rd.andv ?_)))
      walk_at "rd"
      refine Rd.ixT (.inl (.inl e23)) at0 ?_
      walk_at "rd"
      refine inStr hN3 (Rd.bl (Rd.brT (inT ok) ?_))
      walk_at "rd"
      refine Rd.andv ?_
      walk_at "rd"
      refine Rd.eq_ rfl (Rd.bl ?_)
      exact Rd.brF (by decide) (Rd.bl (hQ H3 s13))
  | check n =>
    rw [show (Stp.check n).word = ("check" : Str) from rfl] at *
    cases hx3 with
    | cons h1 h2 =>
      cases h1
      cases h2
      rw [Stp.ok] at ok
      refine Rd.bl (Rd.brT (inT (List.mem_cons_of_mem _ List.mem_cons_self)) ?_)
      walk_at "rd"
      refine Rd.eq_ rfl (Rd.bl (Rd.brT (by decide) ?_))
      walk_at "rd"
      refine Rd.andv ?_
      walk_at "rd"
      refine Rd.lnT (.inl (.inl e23)) ?_
      walk_at "rd"
      refine Rd.eq_ rfl (Rd.bl (Rd.brT (decide_eq_true rfl) (Rd.andv ?_)))
      walk_at "rd"
      refine Rd.ixT (.inl (.inl e23)) at0 ?_
      walk_at "rd"
      refine inStr hR3 (Rd.bl (Rd.brT (inT ok) ?_))
      walk_at "rd"
      refine Rd.andv ?_
      walk_at "rd"
      refine Rd.eq_ rfl (Rd.bl ?_)
      exact Rd.brF (by decide) (Rd.bl (hQ H3 s13))
  | tail n =>
    rw [show (Stp.tail n).word = ("tail" : Str) from rfl] at *
    cases hx3 with
    | cons h1 h2 =>
      cases h1
      cases h2
      rw [Stp.ok] at ok
      refine Rd.bl (Rd.brT (inT (List.mem_cons_of_mem _ (List.mem_cons_of_mem _ List.mem_cons_self))) ?_)
      walk_at "rd"
      refine Rd.eq_ rfl (Rd.bl (Rd.brF (by decide) ?_))
      walk_at "rd"
      refine Rd.andv ?_
      walk_at "rd"
      refine Rd.lnT (.inl (.inl e23)) ?_
      walk_at "rd"
      refine Rd.eq_ rfl (Rd.bl (Rd.brT (decide_eq_true rfl) (Rd.andv ?_)))
      walk_at "rd"
      refine Rd.ixT (.inl (.inl e23)) at0 ?_
      walk_at "rd"
      refine inStr hN3 (Rd.bl (Rd.brT (inT ok.1) ?_))
      walk_at "rd"
      refine Rd.andv ?_
      walk_at "rd"
      refine Rd.eq_ rfl (Rd.bl ?_)
      refine Rd.brT (by decide) ?_
      walk_at "rd"
      rw [ok.2]
      exact (hQ H3 s13 : Q (.bl true) H3)
  | back =>
    rw [show (Stp.back).word = ("back" : Str) from rfl] at *
    cases hx3
    refine Rd.bl (Rd.brF (inF (by decide)) ?_)
    walk_at "rd"
    refine Rd.eq_ rfl (Rd.bl (Rd.brT (by decide) ?_))
    walk_at "rd"
    refine mkTs fun p4 H4 n4 s4 e4 => ?_
    exact Tup0.at_ (sqT_same s4 (.inl (.inl e23))) (.inl (.inl e4)) (hQ H4 (s13.trans s4))
  | either b c =>
    rw [show (Stp.either b c).word = ("either" : Str) from rfl] at *
    rw [Stp.ok] at ok
    rw [Stp.dp] at dp
    cases hx3 with
    | cons h1 h2 =>
      cases h2 with
      | cons h2 h3 =>
        cases h3
        refine Rd.bl (Rd.brF (inF (by decide)) ?_)
        walk_at "rd"
        refine Rd.eq_ rfl (Rd.bl (Rd.brF (by decide) ?_))
        walk_at "rd"
        refine Rd.eq_ rfl (Rd.bl (Rd.brT (by decide) ?_))
        walk_at "rd"
        refine Rd.andv ?_
        walk_at "rd"
        refine Rd.lnT (.inl (.inl e23)) ?_
        walk_at "rd"
        refine Rd.eq_ rfl (Rd.bl (Rd.brT (decide_eq_true rfl) (Rd.andv ?_)))
        walk_at "rd"
        refine Rd.ixT (.inl (.inl e23)) at0 ?_
        walk_at "rd"
        refine isIn (by omega) h1 hR3 hN3 ok.1 fun H4 s4 => ?_
        walk_at "rd"
        refine Rd.brT rfl ?_
        walk_at "rd"
        refine Rd.ixT (sqT_same s4 (.inl (.inl e23))) at1 ?_
        walk_at "rd"
        exact isIn (by omega) (Dq.same s4 _ _ h2) (s4.seq hR3) (s4.seq hN3) ok.2 fun H5 s5 => hQ H5 ((s13.trans s4).trans s5)
  | loop b =>
    rw [show (Stp.loop b).word = ("loop" : Str) from rfl] at *
    rw [Stp.ok] at ok
    rw [Stp.dp] at dp
    cases hx3 with
    | cons h1 h2 =>
      cases h2
      refine Rd.bl (Rd.brF (inF (by decide)) ?_)
      walk_at "rd"
      refine Rd.eq_ rfl (Rd.bl (Rd.brF (by decide) ?_))
      walk_at "rd"
      refine Rd.eq_ rfl (Rd.bl (Rd.brF (by decide) ?_))
      walk_at "rd"
      refine Rd.eq_ rfl (Rd.bl (Rd.brT (by decide) ?_))
      walk_at "rd"
      refine Rd.andv ?_
      walk_at "rd"
      refine Rd.lnT (.inl (.inl e23)) ?_
      walk_at "rd"
      refine Rd.eq_ rfl (Rd.bl (Rd.brT (decide_eq_true rfl) ?_))
      walk_at "rd"
      refine Rd.ixT (.inl (.inl e23)) at0 ?_
      walk_at "rd"
      exact isIn (by omega) h1 hR3 hN3 ok fun H4 s4 => hQ H4 (s13.trans s4)
  | block k2 b =>
    rw [show (Stp.block k2 b).word = ("block" : Str) from rfl] at *
    rw [Stp.ok] at ok
    rw [Stp.dp] at dp
    cases hx3 with
    | cons h1 h2 =>
      cases h1
      cases h2 with
      | cons h2 h3 =>
        cases h3
        refine Rd.bl (Rd.brF (inF (by decide)) ?_)
        walk_at "rd"
        refine Rd.eq_ rfl (Rd.bl (Rd.brF (by decide) ?_))
        walk_at "rd"
        refine Rd.eq_ rfl (Rd.bl (Rd.brF (by decide) ?_))
        walk_at "rd"
        refine Rd.eq_ rfl (Rd.bl (Rd.brF (by decide) ?_))
        walk_at "rd"
        refine Rd.ne_ rfl (Rd.bl (Rd.brF (by decide) ?_))
        walk_at "rd"
        refine Rd.lnT (.inl (.inl e23)) ?_
        walk_at "rd"
        refine Rd.ne_ rfl (Rd.bl (Rd.brF (notSame rfl) ?_))
        walk_at "rd"
        refine Rd.ixT (.inl (.inl e23)) at0 ?_
        walk_at "rd"
        refine isiD (K := K) (H := H3) (.bl k2) (show kitB "bool" "bool" = some true by decide +kernel) ?_
        walk_at "rd"
        refine Rd.brF rfl ?_
        walk_at "rd"
        refine Rd.ixT (.inl (.inl e23)) at1 ?_
        walk_at "rd"
        refine Rd.orv ?_
        walk_at "rd"
        have fin : sp_isin K k ([_, .ref R, .ref N, .bl (m || k2)] ++ []) H3 Q E0 := isIn (by omega) h2 hR3 hN3 ok fun H4 s4 => hQ H4 (s13.trans s4)
        cases m with
        | true =>
          refine Rd.brT rfl ?_
          walk_at "rd"
          exact fin
        | false =>
          refine Rd.brF rfl ?_
          refine Rd.op (Rd.var rfl (Rd.con (Rd.ixT (.inl (.inl e23)) at0 ?_)))
          walk_at "rd"
          exact fin
theorem ok_is (F_s : FnP K "is_step" s_is_step f_s fd_s) (F_b : FnP K "is_body" s_is_body f_b fd_b) (g_is_step : mg "is_step" = some (.ref f_s)) (g_is_body : mg "is_body" = some (.ref f_b)) (T : TxtN mg) :
    ∀ k : Nat, FnOk P w K mg base CX0 (2 * k + 1) f_s fd_s ["value", "rights", "names", "marked"] (sp_isstep K k) ∧ FnOk P w K mg base CX0 (2 * k + 2) f_b fd_b ["value", "rights", "names", "marked"] (sp_isbody K k) := by
  have b_s : Binds K fd_s ["value", "rights", "names", "marked"] [] := F_s.bindsN fun _ _ _ _ _ _ us hl => match us, hl with | [_, _, _, _], _ => rfl
  have b_b : Binds K fd_b ["value", "rights", "names", "marked"] [] := F_b.bindsN fun _ _ _ _ _ _ us hl => match us, hl with | [_, _, _, _], _ => rfl
  have step : ∀ k, FnOk P w K mg base CX0 (2 * k) f_b fd_b ["value", "rights", "names", "marked"] (sp_isin K k) → FnOk P w K mg base CX0 (2 * k + 1) f_s fd_s ["value", "rights", "names", "marked"] (sp_isstep K k) ∧ FnOk P w K mg base CX0 (2 * k + 2) f_b fd_b ["value", "rights", "names", "marked"] (sp_isbody K k) := fun k h => by
    have a := ok_isstep1 k F_s h g_is_body F_b.kp b_b T
    exact ⟨a, ok_isbody1 k F_b a g_is_step F_s.kp b_s T⟩
  intro k
  induction k with
  | zero => exact step 0 fn_no
  | succ k ih => exact step (k + 1) ih.2
end

end Bs
set_option Elab.async false
set_option linter.all false
set_option maxRecDepth 100000
set_option maxHeartbeats 200000
/-! the program's checks: steps -/
namespace Bs
open PySem PySem.Spec PyProof.Rows L2 Gd Er
local macro_rules | `(tactic| walk_at "rdc") => `(tactic| (first
  | assumption | exact Or.inl ⟨by omega, by omega⟩ | exact Or.inr ⟨by omega, by omega⟩ | exact Or.inl ⟨by decide, by decide⟩ | exact Or.inr ⟨by decide, by decide⟩
  | (show (0 : Int) < _; omega) | (show (0 : Int) < _; decide) | decide | omega | exact ⟨by decide, by decide, by decide⟩ | exact ⟨by decide, by decide +kernel⟩ | decide +kernel))
local macro_rules | `(tactic| walk_at "rdh") => `(tactic| (first | assumption | exact upd_same))
local macro_rules | `(tactic| walk_at "rd1") => `(tactic| (first
  | (with_reducible refine Rd.var rfl ?_) | (with_reducible refine Rd.con ?_) | (with_reducible refine Rd.op ?_) | (with_reducible refine Rd.un ?_) | (with_reducible refine Rd.i0 ?_) | (with_reducible refine Rd.iu ?_)
  | (with_reducible refine Rd.nil ?_) | (with_reducible refine Rd.cons ?_) | (with_reducible refine Rd.cb ?_) | (with_reducible refine Rd.asg ?_) | (with_reducible refine Rd.name ?_) | (with_reducible refine Rd.sub ?_) | (with_reducible refine Rd.rev ?_) | (with_reducible refine Rd.drop ?_) | (with_reducible refine Rd.bm ?_) | (with_reducible refine Rd.par ?_) | (with_reducible refine Rd.p2 ?_) | (with_reducible refine Rd.sl ?_) | (with_reducible refine Rd.noPart ?_) | (with_reducible refine Rd.part ?_) | (with_reducible refine Rd.int_ ?_) | (with_reducible refine Rd.seq ?_)
  | (with_reducible refine Rd.ret ?_) | (with_reducible refine Rd.retN ?_) | (with_reducible refine Rd.nxt ?_) | (with_reducible refine Rd.tst ?_) | (with_reducible refine Rd.tb_ ?_) | (with_reducible refine Rd.tnot ?_)
  | (with_reducible refine Rd.tor ?_) | (with_reducible refine Rd.tand ?_) | (with_reducible refine Rd.ifs ?_) | (with_reducible refine Rd.ife ?_) | (with_reducible refine Rd.lst ?_) | (with_reducible refine Rd.tup ?_)
  | (with_reducible refine Rd.int1 ?_) | (with_reducible refine Rd.bl ?_) | (with_reducible refine Rd.call ?_)
  | (with_reducible refine Rd.mx ?_) | (with_reducible refine Rd.bits ?_) | (with_reducible refine Rd.forR ?_) | (with_reducible refine Rd.forL ?_) | (with_reducible refine Rd.lcR ?_) | (with_reducible refine Rd.lcL ?_) | (with_reducible refine Rd.lcT ?_) | (with_reducible refine Rd.chain ?_) | (with_reducible refine Rd.notv ?_) | (with_reducible refine Rd.forS ?_) | (with_reducible refine Rd.lcS ?_) | (with_reducible refine Rd.str_ ?_) | (with_reducible refine Rd.forE ?_) | (with_reducible refine Rd.lcI ?_) | (with_reducible refine Rd.tgt ?_) | (with_reducible refine Rd.gcons ?_) | (with_reducible refine Rd.gnil ?_) | (with_reducible refine Rd.fld ?_) | (with_reducible refine Rd.sfld ?_) | (with_reducible refine Rd.meth ?_) | (with_reducible refine Rd.forT ?_)
  | ((with_reducible refine' Rd.ixLT ?rh ?ra ?_); (case rh => walk_at "rdh"); (case ra => rfl))
  | ((with_reducible refine' Rd.setL ?rh ?ra ?_); (case rh => walk_at "rdh"); (case ra => rfl))
  | ((with_reducible refine Rd.ic ?rc ?_); (case rc => walk_at "rdc"))))
local macro_rules | `(tactic| walk_at "rd") => `(tactic| (repeat (walk_at "rd1")))


/-! ### copied_step, copied_body; is_function, first_names -/
abbrev s_copied_step : Stmt := top 21
abbrev N_copied_step : List Str := ["step", "part"]
theorem sc_copied_step : FnScope N_copied_step ["step"] (defScope s_copied_step) := ⟨rfl, rfl, rfl, by decide +kernel, rfl, by decide +kernel, by decide +kernel⟩
abbrev s_copied_body : Stmt := top 22
abbrev N_copied_body : List Str := ["body", "step"]
theorem sc_copied_body : FnScope N_copied_body ["body"] (defScope s_copied_body) := ⟨rfl, rfl, rfl, by decide +kernel, rfl, by decide +kernel, by decide +kernel⟩
abbrev s_is_function : Stmt := top 20
abbrev N_is_function : List Str := ["value", "rights", "owners", "names"]
theorem sc_is_function : FnScope N_is_function ["value", "rights", "owners", "names"] (defScope s_is_function) := ⟨rfl, rfl, rfl, by decide +kernel, rfl, by decide +kernel, by decide +kernel⟩
def sp_cstep (K : PySem.W.Frag) (k : Nat) : Sp := fun vs H Q _ => ∃ (v : V) (W : Hp) (s : Stp), vs = [v] ∧ Same W H ∧ Dq K W v s.d ∧ s.dp ≤ k ∧ s.wide 500 ∧ GiveC K W H s.d Q
def sp_cbody (K : PySem.W.Frag) (k : Nat) : Sp := fun vs H Q _ => ∃ (v : V) (W : Hp) (b : Bdy), vs = [v] ∧ Same W H ∧ Dq K W v b.d ∧ b.dp ≤ k ∧ b.list.length ≤ 500 ∧ (∀ s, s ∈ b.list → s.wide 500) ∧ GiveC K W H b.d Q
def sp_cbin (K : PySem.W.Frag) : Nat → Sp
  | 0 => sp_no
  | k + 1 => sp_cbody K k
section
variable {P : Program} {w : World} {K : PySem.W.Frag} {mg : Str → Option Value} {base : Heap} {f f_b f_s f_n : Addr} {fd fd_b fd_s fd_n : FuncData}
theorem ok_cbody1 (k : Nat) (F : FnP K "copied_body" s_copied_body f fd) (G_copied_step : FnOk P w K mg base CX0 (2 * k + 1) f_s fd_s ["step"] (sp_cstep K k)) (g_copied_step : mg "copied_step" = some (.ref f_s)) (k_copied_step : PySem.W.keepIn K (.ref f_s) = true) (b_copied_step : Binds K fd_s ["step"] []) (T : TxtN mg) :
    FnOk P w K mg base CX0 (2 * k + 2) f fd ["body"] (sp_cbody K k) := by
  refine F.ok sc_copied_body (fun vs H Q E h => ?_) (fun cdv A outer s H vs Q E hr h => ?_)
  · obtain ⟨v, W, b, rfl, _⟩ := h
    rfl
  obtain ⟨v, W, b, rfl, sW, hb, hk, hlen, hw, hQ⟩ := h
  rw [Bdy.d] at hb hQ
  obtain ⟨a, xs, rfl, hs, hx⟩ := lst_inv hb
  rw [bdy_ds] at hx hQ
  refine ⟨_, PSs.nox (pss_one (ps_ret (pe_lc (own := [("step", 1)]) (g := gName 1) rfl sc_copied_body.nd (Rd.pi_listK (K := K) rfl (pv 0)) (blkOk_by (N := N_copied_body) (sc := defScope s_copied_body) (by decide +kernel)) (fun _ _ _ _ _ => pg_name (i := 1) sc_copied_body.nd rfl (Or.inl rfl)) (fun _ _ _ _ _ => pts_nil) (fun _ _ _ _ _ => (pe_call G_copied_step (hr.mono (by omega)) rfl g_copied_step k_copied_step b_copied_step .nil pass0 (pa_cons (pv 1) pa_nil)))))), ?_⟩
  walk_at "rd"
  refine Rd.l1 (sW.seq hs) fun D hD => ?_
  refine Rd.byCL (xs := xs) (fun i H' => ∃ (W' : Hp) (its : List V), Grow W W' H ∧ Same W' H' ∧ W' D = none ∧ Same H H' ∧ H' D = some (.lst its) ∧ DqAll K W' its ((b.list.take i).map Stp.d))
    ⟨W, [], Grow.refl, sW.trans (same_upd hD), same_none sW hD, same_upd hD, upd_same, .nil⟩ (fun i H' hi h => ?_) (fun i x H' hi h => ?_) (fun H' h => ?_)
  · obtain ⟨W', its, a1, a2, _⟩ := h
    exact a2.seq (a1.s.seq hs)
  · obtain ⟨W', its, a1, a2, a3, a4, a5, a6⟩ := h
    obtain ⟨d, hd, hxd⟩ := dqAll_get hx hi
    rw [List.getElem?_map] at hd
    obtain ⟨st, hst, rfl⟩ := Option.map_eq_some_iff.mp hd
    have hm := List.mem_of_getElem? hst
    have hi2 := (List.getElem?_eq_some_iff.mp hst).1
    have li : its.length < 1000 := by
      rw [dqAll_len a6, List.length_map, List.length_take]
      omega
    have tk : (b.list.take (i + 1)).map Stp.d = (b.list.take i).map Stp.d ++ [st.d] := by
      rw [List.take_add_one, hst, List.map_append]
      rfl
    refine Rd.turn1 rfl ?_
    walk_at "rd"
    refine ⟨x, W', st, rfl, a2, Dq.same a1.s _ _ hxd, Nat.le_trans (bdy_dp hm) hk, hw st hm, fun T W3 H3 q1 q2 q3 q4 q5 => ?_⟩
    have W3D : W3 D = none := q2.n D _ a5 a3
    refine Rd.acc (q1 _ _ a5) li ⟨W3, its ++ [.ref T], a1.trans q2 (Same.alive a4), ?_, W3D, ?_, upd_same, ?_⟩
    · intro y o e
      exact (upd_ne (fun z => by rw [z, W3D] at e; cases e)).trans (q3 _ _ e)
    · intro y o e
      exact (upd_ne (ne_of_none e hD)).trans (q1 _ _ (a4 _ _ e))
    · rw [tk]
      exact dqAll_app (.cons q4 .nil) (Dq.sameAll q2.s _ _ a6)
  · obtain ⟨W', its, a1, a2, a3, a4, a5, a6⟩ := h
    rw [dqAll_len hx, List.length_map, List.take_length] at a6
    exact hQ D (upd W' D (.lst its)) H' a4 (a1.put hD a3) (same_put a2 a5) (.lst (.inl (.inl upd_same)) (Dq.sameAll (same_upd a3) _ _ a6)) hD
theorem ok_cstep1 (k : Nat) (F : FnP K "copied_step" s_copied_step f fd) (G_copied_body : FnOk P w K mg base CX0 (2 * k) f_b fd_b ["body"] (sp_cbin K k)) (g_copied_body : mg "copied_body" = some (.ref f_b)) (k_copied_body : PySem.W.keepIn K (.ref f_b) = true) (b_copied_body : Binds K fd_b ["body"] []) (T : TxtN mg) :
    FnOk P w K mg base CX0 (2 * k + 1) f fd ["step"] (sp_cstep K k) := by
  refine F.ok sc_copied_step (fun vs H Q E h => ?_) (fun cdv A outer s H vs Q E hr h => ?_)
  · obtain ⟨v, W, st, rfl, _⟩ := h
    rfl
  obtain ⟨v, W, st, rfl, sW, hd, hk, hw, hQ⟩ := h
  rw [ps_d] at hd
  obtain ⟨t, ys, rfl, ht, hy⟩ := tup_inv hd
  refine ⟨_, PSs.nox (pss_one (ps_ret (pe_callTy (show CallR _ (.type "tuple") (Rd.rTupOf K) from Rd.c_tupOf) (by rfl) T.m_tuple (by decide +kernel) (pa_cons (pe_lc (own := [("part", 1)]) (g := gName 1) rfl sc_copied_step.nd (Rd.pi_tupK (K := K) rfl (pv 0)) (blkOk_by (N := N_copied_step) (sc := defScope s_copied_step) (by decide +kernel)) (fun _ _ _ _ _ => pg_name (i := 1) sc_copied_step.nd rfl (Or.inl rfl)) (fun _ _ _ _ _ => pts_nil) (fun _ _ _ _ _ => (pe_ifExp (pt_val (pe_callB (show CallR _ (.builtin "isinstance") (rIsi K) from call_isi) (by rfl) T.m_isinstance (by decide +kernel) (pa_cons (pv 1) (pa_cons (pe_bltn (v := .ty "list") (by rfl) T.m_list (by decide +kernel) rfl) pa_nil)))) (pe_call G_copied_body (hr.mono (by omega)) rfl g_copied_body k_copied_body b_copied_body .nil pass0 (pa_cons (pv 1) pa_nil)) (pv 1)))) pa_nil)))), ?_⟩
  walk_at "rd"
  refine Rd.t1 (sqT_same sW ht) fun D hD => ?_
  refine Rd.byCT (xs := ys) (fun j H2 => ∃ (W2 : Hp) (its : List V), Grow W W2 H ∧ Same W2 H2 ∧ W2 D = none ∧ Same H H2 ∧ H2 D = some (.lst its) ∧ DqAll K W2 its ((st.ps.take j).map Prt.d))
    ⟨W, [], Grow.refl, sW.trans (same_upd hD), same_none sW hD, same_upd hD, upd_same, .nil⟩ (fun j H2 hj h => ?_) (fun j y H2 hj h => ?_) (fun H2 h => ?_)
  · obtain ⟨W2, its, b1, b2, _⟩ := h
    exact sqT_same b2 (sqT_same b1.s ht)
  · obtain ⟨W2, its, b1, b2, b3, b4, b5, b6⟩ := h
    obtain ⟨pd, hpd, hyd⟩ := dqAll_get hy hj
    rw [List.getElem?_map] at hpd
    obtain ⟨pr, hpr, rfl⟩ := Option.map_eq_some_iff.mp hpd
    have hpm := List.mem_of_getElem? hpr
    have tk2 : (st.ps.take (j + 1)).map Prt.d = (st.ps.take j).map Prt.d ++ [pr.d] := by
      rw [List.take_add_one, hpr, List.map_append]
      rfl
    have lj : its.length < 1000 := by
      rw [dqAll_len b6, List.length_map, List.length_take]
      have := ps_len st
      omega
    have hyd2 := Dq.same b1.s _ _ hyd
    refine Rd.turn1 rfl ?_
    walk_at "rd"
    cases pr with
    | dat d =>
      refine isiF (Dq.same b2 _ _ hyd2) (ps_flat hpm) ?_
      walk_at "rd"
      refine Rd.brF rfl ?_
      walk_at "rd"
      refine Rd.acc b5 lj ⟨W2, its ++ [y], b1, ?_, b3, ?_, upd_same, ?_⟩
      · intro x o e
        exact (upd_ne (fun z => by rw [z, b3] at e; cases e)).trans (b2 _ _ e)
      · intro x o e
        exact (upd_ne (ne_of_none e hD)).trans (b4 _ _ e)
      · rw [tk2]
        exact dqAll_app (.cons hyd2 .nil) b6
    | bod bb =>
      have hy3 : Dq K H2 y (.list bb.ds) := Dq.same b2 _ _ hyd2
      refine isiL hy3 ?_
      walk_at "rd"
      refine Rd.brT rfl ?_
      walk_at "rd"
      have dp := ps_dp hpm
      obtain ⟨k', rfl⟩ : ∃ k', k = k' + 1 := ⟨k - 1, by omega⟩
      obtain ⟨w1, w2⟩ := wide_in hw hpm
      refine ⟨y, W2, bb, rfl, b2, hyd2, by omega, w1, w2, fun T W3 H3 q1 q2 q3 q4 q5 => ?_⟩
      have W3D : W3 D = none := q2.n D _ b5 b3
      refine Rd.acc (q1 _ _ b5) lj ⟨W3, its ++ [.ref T], b1.trans q2 (Same.alive b4), ?_, W3D, ?_, upd_same, ?_⟩
      · intro x o e
        exact (upd_ne (fun z => by rw [z, W3D] at e; cases e)).trans (q3 _ _ e)
      · intro x o e
        exact (upd_ne (ne_of_none e hD)).trans (q1 _ _ (b4 _ _ e))
      · rw [tk2]
        exact dqAll_app (.cons q4 .nil) (Dq.sameAll q2.s _ _ b6)
  · obtain ⟨W2, its, b1, b2, b3, b4, b5, b6⟩ := h
    rw [dqAll_len hy, List.length_map, List.take_length] at b6
    walk_at "rd"
    refine ⟨D, its, rfl, .inl ⟨.inl (.inl b5), fun T hT => ?_⟩⟩
    have sT := same_upd (o := HO.tup its) hT
    obtain ⟨u1, u2, u3⟩ := put_tup (K := K) (b2.trans sT) upd_same (same_none b2 hT) b6
    rw [← ps_d] at u3
    exact hQ T _ _ (b4.trans sT) (b1.put (same_none b4 hT) (same_none b2 hT)) u2 u3 (same_none b4 hT)
theorem ok_cp (F_s : FnP K "copied_step" s_copied_step f_s fd_s) (F_b : FnP K "copied_body" s_copied_body f_b fd_b) (g_s : mg "copied_step" = some (.ref f_s)) (g_b : mg "copied_body" = some (.ref f_b)) (T : TxtN mg) :
    ∀ k : Nat, FnOk P w K mg base CX0 (2 * k + 1) f_s fd_s ["step"] (sp_cstep K k) ∧ FnOk P w K mg base CX0 (2 * k + 2) f_b fd_b ["body"] (sp_cbody K k) := by
  have b_s : Binds K fd_s ["step"] [] := F_s.bindsN fun _ _ _ _ _ _ us hl => match us, hl with | [_], _ => rfl
  have b_b : Binds K fd_b ["body"] [] := F_b.bindsN fun _ _ _ _ _ _ us hl => match us, hl with | [_], _ => rfl
  have step : ∀ k, FnOk P w K mg base CX0 (2 * k) f_b fd_b ["body"] (sp_cbin K k) → FnOk P w K mg base CX0 (2 * k + 1) f_s fd_s ["step"] (sp_cstep K k) ∧ FnOk P w K mg base CX0 (2 * k + 2) f_b fd_b ["body"] (sp_cbody K k) := fun k h => by
    have a := ok_cstep1 k F_s h g_b F_b.kp b_b T
    exact ⟨a, ok_cbody1 k F_b a g_s F_s.kp b_s T⟩
  intro k
  induction k with
  | zero => exact step 0 fn_no
  | succ k ih => exact step (k + 1) ih.2
/-- a function's row -/
theorem fun_inv {H : Hp} {v : V} {g : Str × Str × Bdy} (h : Dq K H v (fd3 g)) : ∃ a y, v = .ref a ∧ SqT K H a [.str g.1, .str g.2.1, y] ∧ Dq K H y g.2.2.d := by
  obtain ⟨a, xs, rfl, ha, hx⟩ := tup_inv h
  cases hx with
  | cons h1 h2 =>
    cases h1
    cases h2 with
    | cons h3 h4 =>
      cases h3
      cases h4 with
      | cons h5 h6 =>
        cases h6
        exact ⟨a, _, rfl, ha, h5⟩
theorem at2 {x y z : V} {tl : List V} : atI (x :: y :: z :: tl) 2 = some z := show atI _ ((2 : Nat) : Int) = _ from atI_nat rfl
def sp_function (K : PySem.W.Frag) (k : Nat) : Sp := fun vs H Q _ => ∃ (v : V) (R O N : Addr) (g : Str × Str × Bdy) (rs os ns : List Str), vs = [v, .ref R, .ref O, .ref N] ∧ Dq K H v (fd3 g) ∧ SqL K H R (rs.map V.str) ∧ SqL K H O (os.map V.str) ∧ SqL K H N (ns.map V.str) ∧
  NameOk g.1 ∧ g.2.1 ∈ os ∧ g.2.2.ok rs ns false ∧ g.2.2.dp ≤ k ∧ ∀ H', Same H H' → Q (.bl true) H'
theorem ok_function (k : Nat) (F : FnP K "is_function" s_is_function f fd) (G_is_name : FnOk P w K mg base CX0 1 f_n fd_n ["value"] sp_name) (g_is_name : mg "is_name" = some (.ref f_n)) (k_is_name : PySem.W.keepIn K (.ref f_n) = true) (b_is_name : Binds K fd_n ["value"] [])
    (G_is_body : FnOk P w K mg base CX0 (2 * k + 2) f_b fd_b ["value", "rights", "names", "marked"] (sp_isbody K k)) (g_is_body : mg "is_body" = some (.ref f_b)) (k_is_body : PySem.W.keepIn K (.ref f_b) = true) (b_is_body : Binds K fd_b ["value", "rights", "names", "marked"] []) (T : TxtN mg) :
    FnOk P w K mg base CX0 (2 * k + 3) f fd ["value", "rights", "owners", "names"] (sp_function K k) := by
  refine F.ok sc_is_function (fun vs H Q E h => ?_) (fun cdv A outer s H vs Q E hr h => ?_)
  · obtain ⟨v, R, O, N, g, rs, os, ns, rfl, _⟩ := h
    rfl
  obtain ⟨v, R, O, N, g, rs, os, ns, rfl, hd, hR, hO, hN, h1, h2, h3, h4, hQ⟩ := h
  obtain ⟨a, y, rfl, ha, hy⟩ := fun_inv hd
  refine ⟨_, PSs.nox (pss_cons (ps_if (PW.pt (pw_or (pt_not (pt_val (pe_callB (show CallR _ (.builtin "isinstance") (rIsi K) from call_isi) (by rfl) T.m_isinstance (by decide +kernel) (pa_cons (pv 0) (pa_cons (pe_bltn (v := .ty "tuple") (by rfl) T.m_tuple (by decide +kernel) rfl) pa_nil))))) (pw_or (pt_cmpR op_ne (pe_callB (show CallR _ (.builtin "len") (Rd.rLn K) from Rd.c_len) (by rfl) T.m_len boot_len (pa_cons (pv 0) pa_nil)) pe_int (nomark _)) (pw_or (pt_not (pt_val (pe_call G_is_name (hr.mono (by omega)) rfl g_is_name k_is_name b_is_name .nil pass0 (pa_cons (pe_ix (show IxR _ (rIxT K) from ix_tup) (pv 0) pe_int (fun _ _ => rfl)) pa_nil)))) (pw_or1 (pt_cmpR (show OpR _ (compareOp .NotIn) (rIn K true) from op_notIn_seq) (pe_ix (show IxR _ (rIxT K) from ix_tup) (pv 0) pe_int (fun _ _ => rfl)) (pv 2) (by rfl))))))) (pss_one (ps_ret pe_bl)) pss_nil)
    (pss_one (ps_ret (pe_call G_is_body (hr.mono (by omega)) rfl g_is_body k_is_body b_is_body .nil pass0 (pa_cons (pe_ix (show IxR _ (rIxT K) from ix_tup) (pv 0) pe_int (fun _ _ => rfl)) (pa_cons (pv 1) (pa_cons (pv 3) (pa_cons pe_bl pa_nil)))))))), ?_⟩
  walk_at "rd"
  refine isiD hd (show kitB "tuple" "tuple" = some true by decide +kernel) ?_
  walk_at "rd"
  refine Rd.brF rfl ?_
  walk_at "rd"
  refine Rd.lnT ha ?_
  walk_at "rd"
  refine Rd.ne_ rfl (Rd.bl (Rd.brF (notSame rfl) ?_))
  walk_at "rd"
  refine Rd.ixT ha at0 ?_
  walk_at "rd"
  refine ⟨g.1, rfl, h1, fun H1 s1 => ?_⟩
  walk_at "rd"
  refine Rd.brF rfl ?_
  walk_at "rd"
  refine Rd.ixT (sqT_same s1 ha) at1 ?_
  walk_at "rd"
  refine inStr (s1.seq hO) (Rd.bl (Rd.brF (by rw [if_pos rfl, decide_eq_true h2]; rfl) ?_))
  walk_at "rd"
  refine Rd.ixT (sqT_same s1 ha) at2 ?_
  walk_at "rd"
  exact ⟨y, R, N, false, g.2.2, rs, ns, rfl, Dq.same s1 _ _ hy, s1.seq hR, s1.seq hN, h3, h4, fun H2 s2 => hQ H2 (s1.trans s2)⟩
end

end Bs
set_option Elab.async false
set_option linter.all false
set_option maxRecDepth 100000
set_option maxHeartbeats 200000
/-! the program's checks: steps -/
namespace Bs
open PySem PySem.Spec PyProof.Rows L2 Gd Er
local macro_rules | `(tactic| walk_at "rdc") => `(tactic| (first
  | assumption | exact Or.inl ⟨by omega, by omega⟩ | exact Or.inr ⟨by omega, by omega⟩ | exact Or.inl ⟨by decide, by decide⟩ | exact Or.inr ⟨by decide, by decide⟩
  | (show (0 : Int) < _; omega) | (show (0 : Int) < _; decide) | decide | omega | exact ⟨by decide, by decide, by decide⟩ | exact ⟨by decide, by decide +kernel⟩ | decide +kernel))
local macro_rules | `(tactic| walk_at "rdh") => `(tactic| (first | assumption | exact upd_same))
local macro_rules | `(tactic| walk_at "rd1") => `(tactic| (first
  | (with_reducible refine Rd.var rfl ?_) | (with_reducible refine Rd.con ?_) | (with_reducible refine Rd.op ?_) | (with_reducible refine Rd.un ?_) | (with_reducible refine Rd.i0 ?_) | (with_reducible refine Rd.iu ?_)
  | (with_reducible refine Rd.nil ?_) | (with_reducible refine Rd.cons ?_) | (with_reducible refine Rd.cb ?_) | (with_reducible refine Rd.asg ?_) | (with_reducible refine Rd.name ?_) | (with_reducible refine Rd.sub ?_) | (with_reducible refine Rd.rev ?_) | (with_reducible refine Rd.drop ?_) | (with_reducible refine Rd.bm ?_) | (with_reducible refine Rd.par ?_) | (with_reducible refine Rd.p2 ?_) | (with_reducible refine Rd.sl ?_) | (with_reducible refine Rd.noPart ?_) | (with_reducible refine Rd.part ?_) | (with_reducible refine Rd.int_ ?_) | (with_reducible refine Rd.seq ?_)
  | (with_reducible refine Rd.ret ?_) | (with_reducible refine Rd.retN ?_) | (with_reducible refine Rd.nxt ?_) | (with_reducible refine Rd.tst ?_) | (with_reducible refine Rd.tb_ ?_) | (with_reducible refine Rd.tnot ?_)
  | (with_reducible refine Rd.tor ?_) | (with_reducible refine Rd.tand ?_) | (with_reducible refine Rd.ifs ?_) | (with_reducible refine Rd.ife ?_) | (with_reducible refine Rd.lst ?_) | (with_reducible refine Rd.tup ?_)
  | (with_reducible refine Rd.int1 ?_) | (with_reducible refine Rd.bl ?_) | (with_reducible refine Rd.call ?_)
  | (with_reducible refine Rd.mx ?_) | (with_reducible refine Rd.bits ?_) | (with_reducible refine Rd.forR ?_) | (with_reducible refine Rd.forL ?_) | (with_reducible refine Rd.lcR ?_) | (with_reducible refine Rd.lcL ?_) | (with_reducible refine Rd.lcT ?_) | (with_reducible refine Rd.chain ?_) | (with_reducible refine Rd.notv ?_) | (with_reducible refine Rd.forS ?_) | (with_reducible refine Rd.lcS ?_) | (with_reducible refine Rd.str_ ?_) | (with_reducible refine Rd.forE ?_) | (with_reducible refine Rd.lcI ?_) | (with_reducible refine Rd.tgt ?_) | (with_reducible refine Rd.gcons ?_) | (with_reducible refine Rd.gnil ?_) | (with_reducible refine Rd.fld ?_) | (with_reducible refine Rd.sfld ?_) | (with_reducible refine Rd.meth ?_) | (with_reducible refine Rd.forT ?_)
  | ((with_reducible refine' Rd.ixLT ?rh ?ra ?_); (case rh => walk_at "rdh"); (case ra => rfl))
  | ((with_reducible refine' Rd.setL ?rh ?ra ?_); (case rh => walk_at "rdh"); (case ra => rfl))
  | ((with_reducible refine Rd.ic ?rc ?_); (case rc => walk_at "rdc"))))
local macro_rules | `(tactic| walk_at "rd") => `(tactic| (repeat (walk_at "rd1")))


/-! ### a program's instance -/
def clsM (st : Stmt) (k : Nat) : Stmt := match st with
  | .ClassDef _ _ _ b _ _ _ _ _ _ _ => b.getD k st
  | s => s
inductive HeldE (W : Hp) : List (Key × V) → List (Str × List Str) → Prop
  | nil : HeldE W [] []
  | cons {n : Str} {t : Addr} {rs : List Str} {kvs : List (Key × V)} {os : List (Str × List Str)} : W t = some (.tup (rs.map V.str)) → HeldE W kvs os → HeldE W ((.inr n, .ref t) :: kvs) ((n, rs) :: os)
inductive BodE (K : PySem.W.Frag) (W : Hp) : List (Key × V) → List (Str × Str × Bdy) → Prop
  | nil : BodE K W [] []
  | cons {n o : Str} {b : Bdy} {t : Addr} {y : V} {kvs : List (Key × V)} {fs : List (Str × Str × Bdy)} : W t = some (.tup [.str o, y]) → Dq K W y b.d → BodE K W kvs fs → BodE K W ((.inr n, .ref t) :: kvs) ((n, o, b) :: fs)
section
variable {K : PySem.W.Frag} {W W' : Hp}
theorem HeldE.same (s : Same W W') : ∀ {kvs : List (Key × V)} {os : List (Str × List Str)}, HeldE W kvs os → HeldE W' kvs os
  | _, _, .nil => .nil
  | _, _, .cons h r => .cons (s _ _ h) (r.same s)
theorem HeldE.snoc {n : Str} {t : Addr} {rs : List Str} (h : W t = some (.tup (rs.map V.str))) : ∀ {kvs : List (Key × V)} {os : List (Str × List Str)}, HeldE W kvs os → HeldE W (kvs ++ [(.inr n, .ref t)]) (os ++ [(n, rs)])
  | _, _, .nil => .cons h .nil
  | _, _, .cons g r => .cons g (HeldE.snoc h r)
theorem HeldE.keys : ∀ {kvs : List (Key × V)} {os : List (Str × List Str)}, HeldE W kvs os → kvs.map (fun kv => kV kv.1) = (os.map (·.1)).map V.str
  | _, _, .nil => rfl
  | _, _, .cons h r => by rw [List.map_cons, List.map_cons, List.map_cons, HeldE.keys r]; rfl
theorem HeldE.val (x : Str) : ∀ {kvs : List (Key × V)} {os : List (Str × List Str)}, HeldE W kvs os → x ∉ os.map (·.1) → valV kvs (.inr x) = none
  | _, _, .nil, _ => rfl
  | _, _, .cons (n := n) h r, nx => by
    rw [List.map_cons, List.mem_cons, not_or] at nx
    rw [valV_neg (fun z => nx.1 (by injection z with z; exact z.symm))]
    exact HeldE.val x r nx.2
theorem BodE.same (s : Same W W') : ∀ {kvs : List (Key × V)} {fs : List (Str × Str × Bdy)}, BodE K W kvs fs → BodE K W' kvs fs
  | _, _, .nil => .nil
  | _, _, .cons h d r => .cons (s _ _ h) (Dq.same s _ _ d) (r.same s)
theorem BodE.snoc {n o : Str} {b : Bdy} {t : Addr} {y : V} (h : W t = some (.tup [.str o, y])) (d : Dq K W y b.d) : ∀ {kvs : List (Key × V)} {fs : List (Str × Str × Bdy)}, BodE K W kvs fs → BodE K W (kvs ++ [(.inr n, .ref t)]) (fs ++ [(n, o, b)])
  | _, _, .nil => .cons h d .nil
  | _, _, .cons g e r => .cons g e (BodE.snoc h d r)
theorem BodE.val (x : Str) : ∀ {kvs : List (Key × V)} {fs : List (Str × Str × Bdy)}, BodE K W kvs fs → x ∉ fs.map (·.1) → valV kvs (.inr x) = none
  | _, _, .nil, _ => rfl
  | _, _, .cons (n := n) h e r, nx => by
    rw [List.map_cons, List.mem_cons, not_or] at nx
    rw [valV_neg (fun z => nx.1 (by injection z with z; exact z.symm))]
    exact BodE.val x r nx.2
end
/-- parts of which a program can be made -/
structure Fits (p : Parts) : Prop where
  r0 : 1 ≤ p.rs.length
  r1 : p.rs.length ≤ 5
  rn : ∀ r, r ∈ p.rs → NameOk r
  rd : p.rs.Nodup
  o0 : 1 ≤ p.os.length
  o1 : p.os.length ≤ 5
  oo : ∀ o, o ∈ p.os → OwnerOk p.rs o
  od : (p.os.map (·.1)).Nodup
  f0 : 1 ≤ p.fs.length
  f1 : p.fs.length ≤ 6
  fd : (p.fs.map (·.1)).Nodup
  ff : ∀ f, f ∈ p.fs → NameOk f.1 ∧ f.2.1 ∈ p.os.map (·.1) ∧ f.2.2.ok p.rs (p.fs.map (·.1)) false ∧ f.2.2.dp ≤ 6 ∧ f.2.2.wide 500
/-- at p stands a program with these parts -/
def PAt (K : PySem.W.Frag) (C : Addr) (W : Hp) (p : Addr) (q : Parts) : Prop := ∃ (W0 : Hp) (dx L D B : Addr) (kv1 kv2 : List (Key × V)), Same W0 W ∧ W0 p = none ∧ W0 D = none ∧ W0 B = none ∧
  W p = some (.ins C dx [("listed", .ref L), ("held", .ref D), ("bodies", .ref B)]) ∧ W0 L = some (.tup (q.rs.map V.str)) ∧ W D = some (.dK kv1) ∧ W B = some (.dK kv2) ∧ HeldE W0 kv1 q.os ∧ BodE K W0 kv2 q.fs ∧ Fits q
theorem PAt.same {K : PySem.W.Frag} {C : Addr} {W W' : Hp} {p : Addr} {q : Parts} (s : Same W W') (h : PAt K C W p q) : PAt K C W' p q := by
  obtain ⟨W0, dx, L, D, B, k1, k2, h0, h1, h2, h3, h4, h5, h6, h7, h8, h9, h10⟩ := h
  exact ⟨W0, dx, L, D, B, k1, k2, h0.trans s, h1, h2, h3, s _ _ h4, h5, s _ _ h6, s _ _ h7, h8, h9, h10⟩
abbrev s_Program_init : Stmt := clsM (top 24) 0
abbrev N_Program_init : List Str := ["self", "rights", "owners", "functions", "at", "right", "held", "owner", "names", "bodies", "one"]
theorem sc_Program_init : FnScope N_Program_init ["self", "rights", "owners", "functions"] (defScope s_Program_init) := ⟨rfl, rfl, rfl, by decide +kernel, rfl, by decide +kernel, by decide +kernel⟩
/-- first_names -/
def sp_firsts (K : PySem.W.Frag) : Sp := fun vs H Q _ => ∃ (F : Addr) (fs : List (Str × Str × Bdy)), vs = [.ref F] ∧ Dq K H (.ref F) (funD fs) ∧ fs.length ≤ 100 ∧ (∀ f, f ∈ fs → NameOk f.1) ∧ ∀ p H', H p = none → Same H H' → H' p = some (.lst ((fs.map (·.1)).map V.str)) → Q (.ref p) H'
section
variable {P : Program} {w : World} {K : PySem.W.Frag} {mg : Str → Option Value} {base : Heap} {f f_n : Addr} {fd fd_n : FuncData}
theorem ok_firsts (F : FnP K "first_names" s_first_names f fd) (G_is_name : FnOk P w K mg base CX0 1 f_n fd_n ["value"] sp_name) (g_is_name : mg "is_name" = some (.ref f_n)) (k_is_name : PySem.W.keepIn K (.ref f_n) = true) (b_is_name : Binds K fd_n ["value"] []) (T : TxtN mg) :
    FnOk P w K mg base CX0 2 f fd ["functions"] (sp_firsts K) := by
  refine F.ok sc_first_names (fun vs H Q E h => ?_) (fun cdv A outer s H vs Q E hr h => ?_)
  · obtain ⟨F0, fs, rfl, _⟩ := h
    rfl
  obtain ⟨F0, fs, rfl, hd, hl, hn, hQ⟩ := h
  obtain ⟨_, xs, e0, hs, hx⟩ := lst_inv hd
  cases e0
  refine ⟨_, PSs.nox (pss_one (ps_ret (pe_lc (own := [("one", 1)]) (g := gName 1) rfl sc_first_names.nd (Rd.pi_listK (K := K) rfl (pv 0)) (blkOk_by (N := N_first_names) (sc := defScope s_first_names) (by decide +kernel)) (fun _ _ _ _ _ => pg_name (i := 1) sc_first_names.nd rfl (Or.inl rfl)) (fun _ _ _ _ _ => (pts_one (PW.pt (pw_and (pt_val (pe_callB (show CallR _ (.builtin "isinstance") (rIsi K) from call_isi) (by rfl) T.m_isinstance (by decide +kernel) (pa_cons (pv 1) (pa_cons (pe_bltn (v := .ty "tuple") (by rfl) T.m_tuple (by decide +kernel) rfl) pa_nil)))) (pw_and (pt_cmpR op_eq (pe_callB (show CallR _ (.builtin "len") (Rd.rLn K) from Rd.c_len) (by rfl) T.m_len boot_len (pa_cons (pv 1) pa_nil)) pe_int (nomark _)) (pw_and1 (pt_val (pe_call G_is_name (hr.mono (by decide)) rfl g_is_name k_is_name b_is_name .nil pass0 (pa_cons (pe_ix (show IxR _ (rIxT K) from ix_tup) (pv 1) pe_int (fun _ _ => rfl)) pa_nil))))))))) (fun _ _ _ _ _ => (pe_ix (show IxR _ (rIxT K) from ix_tup) (pv 1) pe_int (fun _ _ => rfl)))))), ?_⟩
  walk_at "rd"
  refine Rd.l1 hs fun D hD => ?_
  refine Rd.byCL (xs := xs) (fun i H' => Same H H' ∧ H' D = some (.lst (((fs.take i).map (·.1)).map V.str))) ⟨same_upd hD, upd_same⟩ (fun i H' hi h => h.1.seq hs) (fun i x H' hi h => ?_) (fun H' h => ?_)
  · obtain ⟨s1, e1⟩ := h
    obtain ⟨d, hd, hxd⟩ := dqAll_get hx hi
    rw [List.getElem?_map] at hd
    obtain ⟨g, hg, rfl⟩ := Option.map_eq_some_iff.mp hd
    have hi2 := (List.getElem?_eq_some_iff.mp hg).1
    obtain ⟨t, y, rfl, ht, hy⟩ := fun_inv (Dq.same s1 _ _ hxd)
    refine Rd.turnIf rfl ?_
    walk_at "rd"
    refine isiD (Dq.same s1 _ _ hxd) (show kitB "tuple" "tuple" = some true by decide +kernel) ?_
    walk_at "rd"
    refine Rd.brT rfl ?_
    walk_at "rd"
    refine Rd.lnT ht ?_
    walk_at "rd"
    refine Rd.eq_ rfl (Rd.bl (Rd.brT (decide_eq_true rfl) ?_))
    walk_at "rd"
    refine Rd.ixT ht at0 ?_
    walk_at "rd"
    refine ⟨g.1, rfl, hn g (List.mem_of_getElem? hg), fun H2 s2 => ?_⟩
    walk_at "rd"
    refine Rd.brT rfl ?_
    walk_at "rd"
    refine Rd.ixT (sqT_same s2 ht) at0 ?_
    refine Rd.acc (s2 _ _ e1) (by rw [List.length_map, List.length_map, List.length_take]; omega) ⟨fun b o e => (upd_ne (ne_of_none e hD)).trans (s2 _ _ (s1 _ _ e)), ?_⟩
    rw [upd_same, List.take_add_one, hg, List.map_append, List.map_append]
    rfl
  · obtain ⟨s1, e1⟩ := h
    rw [dqAll_len hx, List.length_map, List.take_length] at e1
    exact hQ D H' hD s1 e1
end

end Bs
set_option Elab.async false
set_option linter.all false
set_option maxRecDepth 100000
set_option maxHeartbeats 200000
/-! the program's checks: steps -/
namespace Bs
open PySem PySem.Spec PyProof.Rows L2 Gd Er
local macro_rules | `(tactic| walk_at "rdc") => `(tactic| (first
  | assumption | exact Or.inl ⟨by omega, by omega⟩ | exact Or.inr ⟨by omega, by omega⟩ | exact Or.inl ⟨by decide, by decide⟩ | exact Or.inr ⟨by decide, by decide⟩
  | (show (0 : Int) < _; omega) | (show (0 : Int) < _; decide) | decide | omega | exact ⟨by decide, by decide, by decide⟩ | exact ⟨by decide, by decide +kernel⟩ | decide +kernel))
local macro_rules | `(tactic| walk_at "rdh") => `(tactic| (first | assumption | exact upd_same))
local macro_rules | `(tactic| walk_at "rd1") => `(tactic| (first
  | (with_reducible refine Rd.var rfl ?_) | (with_reducible refine Rd.con ?_) | (with_reducible refine Rd.op ?_) | (with_reducible refine Rd.un ?_) | (with_reducible refine Rd.i0 ?_) | (with_reducible refine Rd.iu ?_)
  | (with_reducible refine Rd.nil ?_) | (with_reducible refine Rd.cons ?_) | (with_reducible refine Rd.cb ?_) | (with_reducible refine Rd.asg ?_) | (with_reducible refine Rd.name ?_) | (with_reducible refine Rd.sub ?_) | (with_reducible refine Rd.rev ?_) | (with_reducible refine Rd.drop ?_) | (with_reducible refine Rd.bm ?_) | (with_reducible refine Rd.par ?_) | (with_reducible refine Rd.p2 ?_) | (with_reducible refine Rd.sl ?_) | (with_reducible refine Rd.noPart ?_) | (with_reducible refine Rd.part ?_) | (with_reducible refine Rd.int_ ?_) | (with_reducible refine Rd.seq ?_)
  | (with_reducible refine Rd.ret ?_) | (with_reducible refine Rd.retN ?_) | (with_reducible refine Rd.nxt ?_) | (with_reducible refine Rd.tst ?_) | (with_reducible refine Rd.tb_ ?_) | (with_reducible refine Rd.tnot ?_)
  | (with_reducible refine Rd.tor ?_) | (with_reducible refine Rd.tand ?_) | (with_reducible refine Rd.ifs ?_) | (with_reducible refine Rd.ife ?_) | (with_reducible refine Rd.lst ?_) | (with_reducible refine Rd.tup ?_)
  | (with_reducible refine Rd.int1 ?_) | (with_reducible refine Rd.bl ?_) | (with_reducible refine Rd.call ?_)
  | (with_reducible refine Rd.mx ?_) | (with_reducible refine Rd.bits ?_) | (with_reducible refine Rd.forR ?_) | (with_reducible refine Rd.forL ?_) | (with_reducible refine Rd.lcR ?_) | (with_reducible refine Rd.lcL ?_) | (with_reducible refine Rd.lcT ?_) | (with_reducible refine Rd.chain ?_) | (with_reducible refine Rd.notv ?_) | (with_reducible refine Rd.forS ?_) | (with_reducible refine Rd.lcS ?_) | (with_reducible refine Rd.str_ ?_) | (with_reducible refine Rd.forE ?_) | (with_reducible refine Rd.lcI ?_) | (with_reducible refine Rd.tgt ?_) | (with_reducible refine Rd.gcons ?_) | (with_reducible refine Rd.gnil ?_) | (with_reducible refine Rd.fld ?_) | (with_reducible refine Rd.sfld ?_) | (with_reducible refine Rd.meth ?_) | (with_reducible refine Rd.forT ?_)
  | ((with_reducible refine' Rd.ixLT ?rh ?ra ?_); (case rh => walk_at "rdh"); (case ra => rfl))
  | ((with_reducible refine' Rd.setL ?rh ?ra ?_); (case rh => walk_at "rdh"); (case ra => rfl))
  | ((with_reducible refine Rd.ic ?rc ?_); (case rc => walk_at "rdc"))))
local macro_rules | `(tactic| walk_at "rd") => `(tactic| (repeat (walk_at "rd1")))


/-! ### Program.__init__, of parts that fit -/
abbrev FnM (K : PySem.W.Frag) (x q : Str) (st : Stmt) (f : Addr) (fd : FuncData) : Prop := FunD K x q (defArgs st) (defBody st) (defScope st) [] [] f fd
structure PCls (K : PySem.W.Frag) (C : Addr) : Prop where
  c : Cls K C
  n1 : NoAttr K C "listed"
  n2 : NoAttr K C "held"
  n3 : NoAttr K C "bodies"
theorem cut_take {xs : List Str} {i : Nat} : cutV (xs.map V.str) none (some (i : Int)) = (xs.take i).map V.str := by
  unfold cutV
  rw [HT.sIx_nat, HT.sIx_none, List.drop_zero, Nat.sub_zero, List.length_map, List.map_take]
  rw [List.take_eq_take_iff, List.length_map]
  omega
theorem not_take {α : Type} {xs : List α} {i : Nat} {x : α} (nd : xs.Nodup) (h : xs[i]? = some x) : x ∉ xs.take i := fun z => by
  obtain ⟨hi, hx⟩ := List.getElem?_eq_some_iff.mp h
  obtain ⟨j, hj, hjx⟩ := List.mem_iff_getElem.mp z
  rw [List.length_take] at hj
  rw [List.getElem_take] at hjx
  exact absurd (hjx.trans hx.symm) (List.pairwise_iff_getElem.mp nd j i (by omega) hi (by omega))
theorem dnew {H : Hp} {Q : VK} {σ : L2.St} (q : ∀ p H', H p = none → Same H H' → H' p = some (.dK []) → Q (.ref p) H') : tDNewK σ H Q := fun p hp => q p _ hp (same_upd hp) upd_same
theorem BodE.len {K : PySem.W.Frag} {W : Hp} : ∀ {kvs : List (Key × V)} {fs : List (Str × Str × Bdy)}, BodE K W kvs fs → kvs.length = fs.length
  | _, _, .nil => rfl
  | _, _, .cons _ _ r => by rw [List.length_cons, List.length_cons, BodE.len r]
def sp_pinit (K : PySem.W.Frag) : Sp := fun vs H Q _ => ∃ (p R O F C dx : Addr) (W : Hp) (q : Parts), vs = [.ref p, .ref R, .ref O, .ref F] ∧ H p = some (.ins C dx []) ∧ PCls K C ∧ Same W H ∧ W p = none ∧ Dq K W (.ref R) (rigD q.rs) ∧ Dq K W (.ref O) (ownD q.os) ∧ Dq K W (.ref F) (funD q.fs) ∧ Fits q ∧
  ∀ (W1 : Hp) (L D B : Addr) (kv1 kv2 : List (Key × V)) H', But p H H' → Grow W W1 H → Same W1 H' → H' p = some (.ins C dx [("listed", .ref L), ("held", .ref D), ("bodies", .ref B)]) → W1 L = some (.tup (q.rs.map V.str)) → H' D = some (.dK kv1) → H' B = some (.dK kv2) →
    H D = none → H B = none → W1 D = none → W1 B = none → D ≠ B → HeldE W1 kv1 q.os → BodE K W1 kv2 q.fs → Q .non H'
section
variable {P : Program} {w : World} {K : PySem.W.Frag} {mg : Str → Option Value} {base : Heap} {f f_n f_z f_o f_f f_i f_c : Addr} {fd fd_n fd_z fd_o fd_f fd_i fd_c : FuncData}
theorem ok_pinit (F : FnM K "__init__" "Program.__init__" s_Program_init f fd) (G_is_name : FnOk P w K mg base CX0 1 f_n fd_n ["value"] sp_name) (g_is_name : mg "is_name" = some (.ref f_n)) (k_is_name : PySem.W.keepIn K (.ref f_n) = true) (b_is_name : Binds K fd_n ["value"] [])
    (G_check_size : FnOk P w K mg base CX0 1 f_z fd_z ["value", "most"] (sp_size K)) (g_check_size : mg "check_size" = some (.ref f_z)) (k_check_size : PySem.W.keepIn K (.ref f_z) = true) (b_check_size : Binds K fd_z ["value", "most"] [])
    (G_is_owner : FnOk P w K mg base CX0 2 f_o fd_o ["value", "rights"] (sp_owner K)) (g_is_owner : mg "is_owner" = some (.ref f_o)) (k_is_owner : PySem.W.keepIn K (.ref f_o) = true) (b_is_owner : Binds K fd_o ["value", "rights"] [])
    (G_first_names : FnOk P w K mg base CX0 2 f_f fd_f ["functions"] (sp_firsts K)) (g_first_names : mg "first_names" = some (.ref f_f)) (k_first_names : PySem.W.keepIn K (.ref f_f) = true) (b_first_names : Binds K fd_f ["functions"] [])
    (G_is_function : FnOk P w K mg base CX0 15 f_i fd_i ["value", "rights", "owners", "names"] (sp_function K 6)) (g_is_function : mg "is_function" = some (.ref f_i)) (k_is_function : PySem.W.keepIn K (.ref f_i) = true) (b_is_function : Binds K fd_i ["value", "rights", "owners", "names"] [])
    (G_copied_body : FnOk P w K mg base CX0 14 f_c fd_c ["body"] (sp_cbody K 6)) (g_copied_body : mg "copied_body" = some (.ref f_c)) (k_copied_body : PySem.W.keepIn K (.ref f_c) = true) (b_copied_body : Binds K fd_c ["body"] []) (T : TxtN mg) :
    FnOk P w K mg base CX0 16 f fd ["self", "rights", "owners", "functions"] (sp_pinit K) := by
  obtain ⟨t1, mg_MOST_RIGHTS⟩ := T.g_MOST_RIGHTS
  obtain ⟨t2, mg_MOST_OWNERS⟩ := T.g_MOST_OWNERS
  obtain ⟨t3, mg_MOST_FUNCTIONS⟩ := T.g_MOST_FUNCTIONS
  refine F.ok sc_Program_init (fun vs H Q E h => ?_) (fun cdv A outer s H vs Q E hr h => ?_)
  · obtain ⟨p, R, O, F0, C, dx, W, q, rfl, _⟩ := h
    rfl
  obtain ⟨p, R, O, F0, C, dx, W, q, rfl, hp, hC, sW, Wp, dR, dO, dF, ft, hQ⟩ := h
  obtain ⟨_, rx, e0, hR, hRx⟩ := lst_inv dR
  cases e0
  have er := strs_inv hRx
  subst er
  obtain ⟨_, ox, e0, hO, hOx⟩ := lst_inv dO
  cases e0
  obtain ⟨_, fx, e0, hF, hFx⟩ := lst_inv dF
  cases e0
  have lo := dqAll_len hOx
  have lf := dqAll_len hFx
  rw [List.length_map] at lo lf
  refine ⟨_, PSs.nox (pss_cons (ps_expr (pe_call G_check_size (hr.mono (by omega)) rfl g_check_size k_check_size b_check_size .nil pass0 (pa_cons (pv 1) (pa_cons (pe_glob (v := .int 5) rfl mg_MOST_RIGHTS ⟨_, rfl⟩) pa_nil))))
    (pss_cons (ps_for PassesOwn.never rfl (Rd.pi_enumK (K := K) rfl (by rfl) T.m_enumerate (pa_cons (pv 1) pa_nil)) (Rd.pg_tupK (K := K) (n := 2) rfl (by rfl) (pgs_cons (pg_name (i := 4) sc_Program_init.nd rfl (by first | exact Or.inl rfl | exact Or.inr rfl)) (pgs_cons (pg_name (i := 5) sc_Program_init.nd rfl (by first | exact Or.inl rfl | exact Or.inr rfl)) pgs_nil))) (pss_one (ps_if (PW.pt (pw_or (pt_not (pt_val (pe_call G_is_name (hr.mono (by omega)) rfl g_is_name k_is_name b_is_name .nil pass0 (pa_cons (pv 5) pa_nil)))) (pw_or1 (pt_cmpR (show OpR _ (compareOp .In) (rIn K false) from op_in_seq) (pv 5) (pe_slice (show L2.SlR _ (rSlL K) from sl_list) (pv 1) po_none (po_some (pv 4))) (by rfl))))) (pss_one ps_never) pss_nil)))
    (pss_cons (ps_expr (pe_call G_check_size (hr.mono (by omega)) rfl g_check_size k_check_size b_check_size .nil pass0 (pa_cons (pv 2) (pa_cons (pe_glob (v := .int 5) rfl mg_MOST_OWNERS ⟨_, rfl⟩) pa_nil))))
    (pss_cons (ps_set (i := 6) sc_Program_init.nd rfl (by first | exact Or.inl rfl | exact Or.inr rfl) pe_dnewK)
    (pss_cons (ps_for PassesOwn.never rfl (Rd.pi_listK (K := K) rfl (pv 2)) (pg_name (i := 7) sc_Program_init.nd rfl (by first | exact Or.inl rfl | exact Or.inr rfl)) (pss_cons (ps_if (PW.pt (pw_or (pt_not (pt_val (pe_call G_is_owner (hr.mono (by omega)) rfl g_is_owner k_is_owner b_is_owner .nil pass0 (pa_cons (pv 7) (pa_cons (pv 1) pa_nil))))) (pw_or1 (pt_cmp (pc_din (Nat.lt_of_le_of_lt (Nat.add_le_add_left (show 1 ≤ 64 by decide) _) hr.units) (pe_ix (show IxR _ (rIxT K) from ix_tup) (pv 7) pe_int (fun _ _ => rfl)) (pv 6)))))) (pss_one ps_never) pss_nil)
    (pss_one (ps_dput (Nat.lt_of_le_of_lt (Nat.add_le_add_left (show 1 ≤ 64 by decide) _) hr.units) (pv 6) (pe_ix (show IxR _ (rIxT K) from ix_tup) (pv 7) pe_int (fun _ _ => rfl)) (pe_callTy (show CallR _ (.type "tuple") (Rd.rTupOf K) from Rd.c_tupOf) (by rfl) T.m_tuple (by decide +kernel) (pa_cons (pe_ix (show IxR _ (rIxT K) from ix_tup) (pv 7) pe_int (fun _ _ => rfl)) pa_nil)) rfl))))
    (pss_cons (ps_expr (pe_call G_check_size (hr.mono (by omega)) rfl g_check_size k_check_size b_check_size .nil pass0 (pa_cons (pv 3) (pa_cons (pe_glob (v := .int 6) rfl mg_MOST_FUNCTIONS ⟨_, rfl⟩) pa_nil))))
    (pss_cons (ps_par (i := 8) (j := 9) (by rfl) sc_Program_init.nd rfl rfl (by decide) rfl rfl (pa_cons (pe_call G_first_names (hr.mono (by omega)) rfl g_first_names k_first_names b_first_names .nil pass0 (pa_cons (pv 3) pa_nil)) (pa_cons pe_dnewK pa_nil)) (by rfl))
    (pss_cons (ps_for PassesOwn.never rfl (Rd.pi_listK (K := K) rfl (pv 3)) (pg_name (i := 10) sc_Program_init.nd rfl (by first | exact Or.inl rfl | exact Or.inr rfl)) (pss_cons (ps_if (PW.pt (pw_or (pt_not (pt_val (pe_call G_is_function (hr.mono (by omega)) rfl g_is_function k_is_function b_is_function .nil pass0 (pa_cons (pv 10) (pa_cons (pv 1) (pa_cons (pe_callTy (Rd.c_listD rfl) (by rfl) T.m_list (by decide +kernel) (pa_cons (pv 6) pa_nil)) (pa_cons (pv 8) pa_nil))))))) (pw_or1 (pt_cmp (pc_din (Nat.lt_of_le_of_lt (Nat.add_le_add_left (show 1 ≤ 64 by decide) _) hr.units) (pe_ix (show IxR _ (rIxT K) from ix_tup) (pv 10) pe_int (fun _ _ => rfl)) (pv 9)))))) (pss_one ps_never) pss_nil)
    (pss_one (ps_dput (Nat.lt_of_le_of_lt (Nat.add_le_add_left (show 1 ≤ 64 by decide) _) hr.units) (pv 9) (pe_ix (show IxR _ (rIxT K) from ix_tup) (pv 10) pe_int (fun _ _ => rfl)) (pe_tup (pa_cons (pe_ix (show IxR _ (rIxT K) from ix_tup) (pv 10) pe_int (fun _ _ => rfl)) (pa_cons (pe_call G_copied_body (hr.mono (by omega)) rfl g_copied_body k_copied_body b_copied_body .nil pass0 (pa_cons (pe_ix (show IxR _ (rIxT K) from ix_tup) (pv 10) pe_int (fun _ _ => rfl)) pa_nil)) pa_nil))) rfl))))
    (pss_cons (Rd.ps_fldK (K := K) rfl (pv 0) (pe_callTy (show CallR _ (.type "tuple") (Rd.rTupOf K) from Rd.c_tupOf) (by rfl) T.m_tuple (by decide +kernel) (pa_cons (pv 1) pa_nil)) rfl)
    (pss_cons (Rd.ps_fldK (K := K) rfl (pv 0) (pv 6) rfl)
    (pss_one (Rd.ps_fldK (K := K) rfl (pv 0) (pv 9) rfl)))))))))))), ?_⟩
  walk_at "rd"
  refine ⟨R, _, 5, rfl, sW.seq hR, by rw [List.length_map]; exact ft.r0, by rw [List.length_map]; exact ft.r1, ?_⟩
  walk_at "rd"
  refine Rd.e1 (sW.seq hR) ?_
  refine Rd.byJ (walk_enum (xs := q.rs.map V.str)) (fun i σ H' => ∃ o4 o5, σ = [some (.ref p), some (.ref R), some (.ref O), some (.ref F0), o4, o5, none, none, none, none, none] ∧ Same H H') ⟨none, none, rfl, Same.refl H⟩ (fun i σ H' hi h => ?_) (fun i x σ H1 H' hi h hy => ?_) (fun σ H1 h => ?_)
  · obtain ⟨_, _, _, s1⟩ := h
    exact s1.seq (sW.seq hR)
  · obtain ⟨o4, o5, rfl, s1⟩ := h
    obtain ⟨T9, u1, u2, rfl, hT, rfl, e1, e2⟩ := hy
    cases e1
    have e2 : (q.rs.map V.str)[i]? = some u2 := e2
    rw [List.getElem?_map] at e2
    obtain ⟨r, hr, rfl⟩ := Option.map_eq_some_iff.mp e2
    have s2 := s1.trans (same_upd (o := .tup [.int (i : Int), .str r]) hT)
    walk_at "rd"
    refine Rd.tgAt (.inl (.inl upd_same)) rfl ?_
    walk_at "rd"
    refine ⟨r, rfl, ft.rn r (List.mem_of_getElem? hr), fun H2 s3 => ?_⟩
    walk_at "rd"
    refine Rd.brF rfl ?_
    walk_at "rd"
    refine slNew ((s2.trans s3).seq (sW.seq hR)) fun p4 H4 n4 s4 e4 => ?_
    rw [cut_take] at e4
    refine inStr (.inl (.inl e4)) (Rd.bl (Rd.brF (decide_eq_false (not_take ft.rd hr)) ?_))
    exact ⟨_, _, rfl, (s2.trans s3).trans s4⟩
  obtain ⟨o4, o5, rfl, s1⟩ := h
  walk_at "rd"
  refine ⟨O, _, 5, rfl, s1.seq (sW.seq hO), by rw [lo]; exact ft.o0, by rw [lo]; exact ft.o1, ?_⟩
  walk_at "rd"
  refine dnew fun D H2 n2 s2 e2 => ?_
  walk_at "rd"
  have s02 := s1.trans s2
  refine Rd.l1 (s02.seq (sW.seq hO)) ?_
  have HD : H D = none := same_none s1 n2
  refine Rd.byL (xs := ox) (fun i σ H' => ∃ (W' : Hp) (kv : List (Key × V)) (o4 o5 o7 : Option V), σ = [some (.ref p), some (.ref R), some (.ref O), some (.ref F0), o4, o5, some (.ref D), o7, none, none, none] ∧ Grow W W' H ∧ Same W' H' ∧ W' D = none ∧ Same H H' ∧ H' D = some (.dK kv) ∧ HeldE W' kv (q.os.take i))
    ⟨W, [], o4, o5, none, rfl, Grow.refl, sW.trans s02, same_none sW HD, s02, e2, .nil⟩ (fun i σ H' hi h => ?_) (fun i x σ H' hi h => ?_) (fun σ H3 h => ?_)
  · obtain ⟨W', _, _, _, _, _, a1, a2, _⟩ := h
    exact a2.seq (a1.s.seq hO)
  · obtain ⟨W', kv, o4, o5, o7, rfl, a1, a2, a3, a4, a5, a6⟩ := h
    obtain ⟨d, hd, hxd⟩ := dqAll_get hOx hi
    rw [List.getElem?_map] at hd
    obtain ⟨o, ho, rfl⟩ := Option.map_eq_some_iff.mp hd
    have hi2 := (List.getElem?_eq_some_iff.mp ho).1
    have no1 : o.1 ∉ (q.os.take i).map (·.1) := by
      rw [List.map_take]
      exact not_take ft.od (by rw [List.getElem?_map, ho]; rfl)
    have hxW := Dq.same a1.s _ _ hxd
    obtain ⟨t, l, rfl, ht, hl⟩ := own_inv hxW
    walk_at "rd"
    refine ⟨.ref t, R, q.rs, o, rfl, Dq.same a2 _ _ hxW, a4.seq (sW.seq hR), ft.oo o (List.mem_of_getElem? ho), fun H4 s4 => ?_⟩
    walk_at "rd"
    refine Rd.brF rfl ?_
    walk_at "rd"
    refine Rd.din ?_
    walk_at "rd"
    have b4 := a2.trans s4
    refine Rd.ixT (sqT_same b4 ht) at0 ?_
    walk_at "rd"
    refine ⟨D, _, rfl, DGet.k (k := .inr o.1) (s4 _ _ a5), ?_⟩
    rw [HeldE.val o.1 a6 no1]
    refine Rd.bl (Rd.brF rfl ?_)
    walk_at "rd"
    with_reducible refine Rd.dput ?_
    walk_at "rd"
    refine Rd.ixT (sqT_same b4 ht) at1 ?_
    walk_at "rd"
    refine ⟨l, _, rfl, .inl ⟨b4.seq hl, fun t5 h5 => ?_⟩⟩
    have s5 := same_upd (o := .tup (o.2.map V.str)) h5
    walk_at "rd"
    refine Rd.ixT (sqT_same (b4.trans s5) ht) at0 ?_
    have lk : kv.length < 1000 := by
      have := congrArg List.length (HeldE.keys a6)
      rw [List.length_map, List.length_map, List.length_map, List.length_take] at this
      have := ft.o1
      omega
    refine ⟨D, _, rfl, DPut.k (k := .inr o.1) (s5 _ _ (s4 _ _ a5)) (Nat.lt_of_lt_of_le lk (by decide)), ?_⟩
    rw [putK_new _ (HeldE.val o.1 a6 no1)]
    have tD : t5 ≠ D := fun z => by rw [z, s4 _ _ a5] at h5; cases h5
    have Wt : W' t5 = none := same_none b4 h5
    have Ht : H t5 = none := same_none (a4.trans s4) h5
    refine ⟨upd W' t5 (.tup (o.2.map V.str)), _, _, _, _, rfl, a1.put Ht Wt, ?_, (upd_ne (Ne.symm tD)).trans a3, ?_, upd_same, ?_⟩
    · intro y u e
      by_cases z : y = t5
      · rw [z, upd_same] at e
        rw [z]
        cases e
        exact (upd_ne tD).trans upd_same
      · rw [upd_ne z] at e
        exact (upd_ne (fun w => by rw [w, a3] at e; cases e)).trans ((upd_ne z).trans (b4 _ _ e))
    · intro y u e
      exact (upd_ne (ne_of_none e HD)).trans (s5 _ _ (s4 _ _ (a4 _ _ e)))
    · rw [List.take_add_one, ho]
      exact HeldE.snoc upd_same (a6.same (same_upd Wt))
  obtain ⟨W3, kv1, o4, o5, o7, rfl, c1, c2, c3, c4, c5, c6⟩ := h
  rw [lo, List.take_length] at c6
  walk_at "rd"
  refine ⟨F0, _, 6, rfl, c4.seq (sW.seq hF), by rw [lf]; exact ft.f0, by rw [lf]; exact ft.f1, ?_⟩
  walk_at "rd"
  refine ⟨F0, q.fs, rfl, Dq.same (c1.s.trans c2) _ _ dF, by have := ft.f1; omega, fun g hg => (ft.ff g hg).1, fun N1 H4 n4 s4 e4 => ?_⟩
  walk_at "rd"
  refine dnew fun B H5 n5 s5 e5 => ?_
  walk_at "rd"
  have s05 := c4.trans (s4.trans s5)
  have b5 := c2.trans (s4.trans s5)
  have HB : H B = none := same_none (c4.trans s4) n5
  have WB : W3 B = none := same_none (c2.trans s4) n5
  have DB : D ≠ B := fun z => by rw [← z, s4 _ _ c5] at n5; cases n5
  refine Rd.l1 (s05.seq (sW.seq hF)) ?_
  refine Rd.byL (xs := fx) (fun i σ H' => ∃ (W' : Hp) (kv : List (Key × V)) (o10 : Option V), σ = [some (.ref p), some (.ref R), some (.ref O), some (.ref F0), o4, o5, some (.ref D), o7, some (.ref N1), some (.ref B), o10] ∧ Grow W W' H ∧ Same W3 W' ∧ Same W' H' ∧ W' D = none ∧ W' B = none ∧ Same H H' ∧ H' D = some (.dK kv1) ∧
      H' N1 = some (.lst ((q.fs.map (·.1)).map V.str)) ∧ H' B = some (.dK kv) ∧ BodE K W' kv (q.fs.take i))
    ⟨W3, [], none, rfl, c1, Same.refl W3, b5, c3, WB, s05, s5 _ _ (s4 _ _ c5), s5 _ _ e4, e5, .nil⟩ (fun i σ H' hi h => ?_) (fun i x σ H' hi h => ?_) (fun σ H6 h => ?_)
  · obtain ⟨W', _, _, _, a1, _, a2, _⟩ := h
    exact a2.seq (a1.s.seq hF)
  · obtain ⟨W', kv, o10, rfl, a1, aw, a2, a3, a3', a4, a5, a6, a7, a8⟩ := h
    obtain ⟨d, hd, hxd⟩ := dqAll_get hFx hi
    rw [List.getElem?_map] at hd
    obtain ⟨g, hg, rfl⟩ := Option.map_eq_some_iff.mp hd
    have hi2 := (List.getElem?_eq_some_iff.mp hg).1
    obtain ⟨m1, m2, m3, m4, m5⟩ := ft.ff g (List.mem_of_getElem? hg)
    have no1 : g.1 ∉ (q.fs.take i).map (·.1) := by
      rw [List.map_take]
      exact not_take ft.fd (by rw [List.getElem?_map, hg]; rfl)
    have hxW := Dq.same a1.s _ _ hxd
    obtain ⟨t, y, rfl, ht, hy⟩ := fun_inv hxW
    walk_at "rd"
    refine ⟨D, kv1, rfl, .inl a5, fun p6 h6 => ?_⟩
    have s6 := same_upd (o := .lst (kv1.map fun kv => kV kv.1)) h6
    have e6 : upd H' p6 (.lst (kv1.map fun kv => kV kv.1)) p6 = some (.lst ((q.os.map (·.1)).map V.str)) := by rw [upd_same, HeldE.keys c6]
    walk_at "rd"
    refine ⟨.ref t, R, p6, N1, g, q.rs, q.os.map (·.1), q.fs.map (·.1), rfl, Dq.same (a2.trans s6) _ _ hxW, (a4.trans s6).seq (sW.seq hR), .inl (.inl e6), .inl (.inl (s6 _ _ a6)), m1, m2, m3, m4, fun H7 s7 => ?_⟩
    have s67 := s6.trans s7
    walk_at "rd"
    refine Rd.brF rfl ?_
    walk_at "rd"
    refine Rd.din ?_
    walk_at "rd"
    refine Rd.ixT (sqT_same (a2.trans s67) ht) at0 ?_
    walk_at "rd"
    refine ⟨B, _, rfl, DGet.k (k := .inr g.1) (s67 _ _ a7), ?_⟩
    rw [BodE.val g.1 a8 no1]
    refine Rd.bl (Rd.brF rfl ?_)
    walk_at "rd"
    with_reducible refine Rd.dput ?_
    walk_at "rd"
    refine Rd.ixT (sqT_same (a2.trans s67) ht) at1 ?_
    walk_at "rd"
    refine Rd.ixT (sqT_same (a2.trans s67) ht) at2 ?_
    walk_at "rd"
    obtain ⟨w1, w2⟩ := bdy_wide m5
    refine ⟨y, W', g.2.2, rfl, a2.trans s67, hy, m4, w1, w2, fun T8 W8 H8 r1 r2 r3 r4 r5 => ?_⟩
    walk_at "rd"
    refine mkTs fun T9 H9 n9 s9 e9 => ?_
    walk_at "rd"
    have s79 := s67.trans (r1.trans s9)
    refine Rd.ixT (sqT_same (a2.trans s79) ht) at0 ?_
    have lk : kv.length < 1000 := by
      have := BodE.len a8
      rw [List.length_take] at this
      have := ft.f1
      omega
    have e79 := s79 _ _ a7
    refine ⟨B, _, rfl, DPut.k (k := .inr g.1) e79 (Nat.lt_of_lt_of_le lk (by decide)), ?_⟩
    rw [putK_new _ (BodE.val g.1 a8 no1)]
    have W8D : W8 D = none := r2.n D _ (s67 _ _ a5) a3
    have W8B : W8 B = none := r2.n B _ (s67 _ _ a7) a3'
    have W89 : W8 T9 = none := same_none r3 n9
    have H9n : H T9 = none := same_none (a4.trans (s67.trans r1)) n9
    have TB : T9 ≠ B := fun z => by rw [z, r1 _ _ (s67 _ _ a7)] at n9; cases n9
    have TD : T9 ≠ D := fun z => by rw [z, r1 _ _ (s67 _ _ a5)] at n9; cases n9
    have NB : N1 ≠ B := fun z => by rw [z, a7] at a6; cases a6
    refine ⟨upd W8 T9 (.tup [.str g.2.1, .ref T8]), _, _, rfl, (a1.trans r2 (Same.alive (a4.trans s67))).put H9n W89, (aw.trans r2.s).trans (same_upd W89), ?_, (upd_ne (Ne.symm TD)).trans W8D, (upd_ne (Ne.symm TB)).trans W8B, ?_, (upd_ne DB).trans (s79 _ _ a5), (upd_ne NB).trans (s79 _ _ a6), upd_same, ?_⟩
    · intro z u e
      by_cases c : z = T9
      · rw [c, upd_same] at e
        rw [c]
        cases e
        exact (upd_ne TB).trans e9
      · rw [upd_ne c] at e
        exact (upd_ne (fun v => by rw [v, W8B] at e; cases e)).trans (s9 _ _ (r3 _ _ e))
    · intro z u e
      exact (upd_ne (ne_of_none e HB)).trans (s79 _ _ (a4 _ _ e))
    · rw [List.take_add_one, hg]
      exact BodE.snoc upd_same (Dq.same (same_upd W89) _ _ r4) (a8.same (r2.s.trans (same_upd W89)))
  obtain ⟨W6, kv2, o10, rfl, a1, aw, a2, a3, a3', a4, a5, a6, a7, a8⟩ := h
  rw [lf, List.take_length] at a8
  walk_at "rd"
  refine ⟨R, _, rfl, .inl ⟨a4.seq (sW.seq hR), fun L hL => ?_⟩⟩
  have sL := same_upd (o := .tup (q.rs.map V.str)) hL
  have pL : p ≠ L := fun z => by rw [← z, a4 _ _ hp] at hL; cases hL
  have pD : p ≠ D := fun z => by rw [z, HD] at hp; cases hp
  have pB : p ≠ B := fun z => by rw [z, HB] at hp; cases hp
  have LD : L ≠ D := fun z => by rw [z, a5] at hL; cases hL
  have LB : L ≠ B := fun z => by rw [z, a7] at hL; cases hL
  have HL : H L = none := same_none a4 hL
  have WL : W6 L = none := same_none a2 hL
  walk_at "rd"
  refine Rd.fldPut (sL _ _ (a4 _ _ hp)) hC.c hC.n1 ?_
  walk_at "rd"
  refine Rd.fldPut upd_same hC.c hC.n2 ?_
  walk_at "rd"
  refine Rd.fldPut upd_same hC.c hC.n3 ?_
  rw [upd_upd, upd_upd]
  have W6p : W6 p = none := a1.n p _ hp Wp
  refine hQ (upd W6 L (.tup (q.rs.map V.str))) L D B kv1 kv2 _ ?_ (a1.put HL WL) ?_ upd_same upd_same ((upd_ne (Ne.symm pD)).trans ((upd_ne (Ne.symm LD)).trans a5)) ((upd_ne (Ne.symm pB)).trans ((upd_ne (Ne.symm LB)).trans a7)) HD HB ((upd_ne (Ne.symm LD)).trans a3) ((upd_ne (Ne.symm LB)).trans a3') DB (c6.same (aw.trans (same_upd WL))) (a8.same (same_upd WL))
  · intro z u ne e
    exact (upd_ne ne).trans (sL _ _ (a4 _ _ e))
  · intro z u e
    by_cases c : z = p
    · rw [c, upd_ne pL, W6p] at e
      cases e
    · refine (upd_ne c).trans ?_
      by_cases c2 : z = L
      · rw [c2, upd_same] at e
        rw [c2, upd_same, e]
      · rw [upd_ne c2] at e
        exact (upd_ne c2).trans (a2 _ _ e)
end

end Bs
set_option Elab.async false
set_option linter.all false
set_option maxRecDepth 100000
set_option maxHeartbeats 200000
/-! the program's checks: steps -/
namespace Bs
open PySem PySem.Spec PyProof.Rows L2 Gd Er
local macro_rules | `(tactic| walk_at "rdc") => `(tactic| (first
  | assumption | exact Or.inl ⟨by omega, by omega⟩ | exact Or.inr ⟨by omega, by omega⟩ | exact Or.inl ⟨by decide, by decide⟩ | exact Or.inr ⟨by decide, by decide⟩
  | (show (0 : Int) < _; omega) | (show (0 : Int) < _; decide) | decide | omega | exact ⟨by decide, by decide, by decide⟩ | exact ⟨by decide, by decide +kernel⟩ | decide +kernel))
local macro_rules | `(tactic| walk_at "rdh") => `(tactic| (first | assumption | exact upd_same))
local macro_rules | `(tactic| walk_at "rd1") => `(tactic| (first
  | (with_reducible refine Rd.var rfl ?_) | (with_reducible refine Rd.con ?_) | (with_reducible refine Rd.op ?_) | (with_reducible refine Rd.un ?_) | (with_reducible refine Rd.i0 ?_) | (with_reducible refine Rd.iu ?_)
  | (with_reducible refine Rd.nil ?_) | (with_reducible refine Rd.cons ?_) | (with_reducible refine Rd.cb ?_) | (with_reducible refine Rd.asg ?_) | (with_reducible refine Rd.name ?_) | (with_reducible refine Rd.sub ?_) | (with_reducible refine Rd.rev ?_) | (with_reducible refine Rd.drop ?_) | (with_reducible refine Rd.bm ?_) | (with_reducible refine Rd.par ?_) | (with_reducible refine Rd.p2 ?_) | (with_reducible refine Rd.sl ?_) | (with_reducible refine Rd.noPart ?_) | (with_reducible refine Rd.part ?_) | (with_reducible refine Rd.int_ ?_) | (with_reducible refine Rd.seq ?_)
  | (with_reducible refine Rd.ret ?_) | (with_reducible refine Rd.retN ?_) | (with_reducible refine Rd.nxt ?_) | (with_reducible refine Rd.tst ?_) | (with_reducible refine Rd.tb_ ?_) | (with_reducible refine Rd.tnot ?_)
  | (with_reducible refine Rd.tor ?_) | (with_reducible refine Rd.tand ?_) | (with_reducible refine Rd.ifs ?_) | (with_reducible refine Rd.ife ?_) | (with_reducible refine Rd.lst ?_) | (with_reducible refine Rd.tup ?_)
  | (with_reducible refine Rd.int1 ?_) | (with_reducible refine Rd.bl ?_) | (with_reducible refine Rd.call ?_)
  | (with_reducible refine Rd.mx ?_) | (with_reducible refine Rd.bits ?_) | (with_reducible refine Rd.forR ?_) | (with_reducible refine Rd.forL ?_) | (with_reducible refine Rd.lcR ?_) | (with_reducible refine Rd.lcL ?_) | (with_reducible refine Rd.lcT ?_) | (with_reducible refine Rd.chain ?_) | (with_reducible refine Rd.notv ?_) | (with_reducible refine Rd.forS ?_) | (with_reducible refine Rd.lcS ?_) | (with_reducible refine Rd.str_ ?_) | (with_reducible refine Rd.forE ?_) | (with_reducible refine Rd.lcI ?_) | (with_reducible refine Rd.tgt ?_) | (with_reducible refine Rd.gcons ?_) | (with_reducible refine Rd.gnil ?_) | (with_reducible refine Rd.fld ?_) | (with_reducible refine Rd.sfld ?_) | (with_reducible refine Rd.meth ?_) | (with_reducible refine Rd.forT ?_)
  | ((with_reducible refine' Rd.ixLT ?rh ?ra ?_); (case rh => walk_at "rdh"); (case ra => rfl))
  | ((with_reducible refine' Rd.setL ?rh ?ra ?_); (case rh => walk_at "rdh"); (case ra => rfl))
  | ((with_reducible refine Rd.ic ?rc ?_); (case rc => walk_at "rdc"))))
local macro_rules | `(tactic| walk_at "rd") => `(tactic| (repeat (walk_at "rd1")))


/-! ### a program made -/
section
variable {K : PySem.W.Frag} {C : Addr} {H1 W : Hp} {R O F : Addr} {q : Parts} {Q : VK} {E : XK}
/-- what Program(..) gives -/
def GiveP (K : PySem.W.Frag) (C : Addr) (W H1 : Hp) (q : Parts) (Q : VK) : Prop := ∀ p W' H', Same H1 H' → Grow W W' H1 → Same W' H' → PAt K C W' p q → H1 p = none → Q (.ref p) H'
theorem mkProg (hC : PCls K C) (sW : Same W H1) (dR : Dq K W (.ref R) (rigD q.rs)) (dO : Dq K W (.ref O) (ownD q.os)) (dF : Dq K W (.ref F) (funD q.fs)) (ft : Fits q) (g : GiveP K C W H1 q Q) :
    ∀ x dx, H1 x = none → H1 dx = none → dx ≠ x → sp_pinit K (V.ref x :: ([V.ref R, .ref O, .ref F] ++ [])) (upd (upd H1 dx (.own x)) x (.ins C dx [])) (fun v H2 => v = .non ∧ Q (.ref x) H2) E := by
  intro x dx hx hdx ne
  have s2 : Same H1 (upd (upd H1 dx (.own x)) x (.ins C dx [])) := (same_upd hdx).trans (same_upd ((upd_ne (Ne.symm ne)).trans hx))
  refine ⟨x, R, O, F, C, dx, W, q, rfl, upd_same, hC, sW.trans s2, same_none sW hx, dR, dO, dF, ft, fun W1 L D B kv1 kv2 H' b gr sW1 hp hL hD hB nD nB wD wB db hh hb => ⟨rfl, ?_⟩⟩
  have xD : x ≠ D := fun z => by rw [← z, upd_same] at nD; cases nD
  have xB : x ≠ B := fun z => by rw [← z, upd_same] at nB; cases nB
  have HD : H1 D = none := same_none s2 nD
  have HB : H1 B = none := same_none s2 nB
  have wx : W1 x = none := gr.n x _ upd_same (same_none sW hx)
  have e0 : Same W1 (upd (upd (upd W1 x (.ins C dx [("listed", .ref L), ("held", .ref D), ("bodies", .ref B)])) D (.dK kv1)) B (.dK kv2)) :=
    ((same_upd wx).trans (same_upd ((upd_ne (Ne.symm xD)).trans wD))).trans (same_upd ((upd_ne (Ne.symm db)).trans ((upd_ne (Ne.symm xB)).trans wB)))
  refine g x (upd (upd (upd W1 x (.ins C dx [("listed", .ref L), ("held", .ref D), ("bodies", .ref B)])) D (.dK kv1)) B (.dK kv2)) H' (fun y o e => b y o (ne_of_none e hx) (s2 _ _ e)) ?_ ?_ ?_ hx
  · refine ((Grow.put (Grow.put (Grow.put (W' := W1) ⟨gr.s, fun y o e w => ?_⟩ hx wx) HD ((upd_ne (Ne.symm xD)).trans wD)) HB ((upd_ne (Ne.symm db)).trans ((upd_ne (Ne.symm xB)).trans wB))))
    exact gr.n y o (s2 _ _ e) w
  · exact same_put (same_put (same_put sW1 hp) hD) hB
  · exact ⟨W1, dx, L, D, B, kv1, kv2, e0, wx, wD, wB, (upd_ne xB).trans ((upd_ne xD).trans upd_same), hL, (upd_ne db).trans upd_same, upd_same, hh, hb, ft⟩
end
theorem HeldE.get {W : Hp} : ∀ {kvs : List (Key × V)} {os : List (Str × List Str)} {i : Nat} {kv : Key × V}, HeldE W kvs os → kvs[i]? = some kv → ∃ n rs t, kv = (.inr n, .ref t) ∧ os[i]? = some (n, rs) ∧ W t = some (.tup (rs.map V.str))
  | _, _, 0, _, .cons h r, e => by cases e; exact ⟨_, _, _, rfl, rfl, h⟩
  | _, _, i + 1, _, .cons h r, e => HeldE.get (i := i) r e
theorem HeldE.len {W : Hp} : ∀ {kvs : List (Key × V)} {os : List (Str × List Str)}, HeldE W kvs os → kvs.length = os.length
  | _, _, .nil => rfl
  | _, _, .cons _ r => by rw [List.length_cons, List.length_cons, HeldE.len r]
theorem BodE.get {K : PySem.W.Frag} {W : Hp} : ∀ {kvs : List (Key × V)} {fs : List (Str × Str × Bdy)} {i : Nat} {kv : Key × V}, BodE K W kvs fs → kvs[i]? = some kv → ∃ n o b t y, kv = (.inr n, .ref t) ∧ fs[i]? = some (n, o, b) ∧ W t = some (.tup [.str o, y]) ∧ Dq K W y b.d
  | _, _, 0, _, .cons h d r, e => by cases e; exact ⟨_, _, _, _, _, rfl, rfl, h, d⟩
  | _, _, i + 1, _, .cons h d r, e => BodE.get (i := i) r e
/-- behind a locked walk -/
theorem unlock {W W0 V2 H H' : Hp} {D : Addr} {u : HO} {ob : Obj} (s0 : Same W0 W) (w0 : W0 D = none) (sW : Same W H) (wD : W D = some u) (gr : Grow W0 V2 (upd H D (.frz ob u))) (sV : Same V2 H') (sH : Same (upd H D (.frz ob u)) H') :
    ∃ W9, Same V2 W9 ∧ Same H (upd H' D u) ∧ Grow W W9 H ∧ Same W9 (upd H' D u) := by
  have vD : V2 D = none := gr.n D _ upd_same w0
  have keep : ∀ b o, b ≠ D → H b = some o → H' b = some o := fun b o n e => sH b o ((upd_ne n).trans e)
  refine ⟨fun b => match V2 b with
    | some o => some o
    | none => W b, fun b o e => by show (match V2 b with | some o => some o | none => W b) = some o; rw [e], fun b o e => ?_, ⟨fun b o e => ?_, fun b o e w => ?_⟩, fun b o e => ?_⟩
  · by_cases c : b = D
    · rw [c] at e ⊢
      rw [upd_same, ← sW _ _ wD, e]
    · exact (upd_ne c).trans (keep b o c e)
  · show (match V2 b with | some o => some o | none => W b) = some o
    cases v : V2 b with
    | none => exact e
    | some o' =>
      have c : b ≠ D := fun z => by rw [z, vD] at v; cases v
      have h1 := keep b o c (sW _ _ e)
      rw [sV _ _ v] at h1
      exact h1
  · show (match V2 b with | some o => some o | none => W b) = none
    have w' : W0 b = none := by
      cases v : W0 b with
      | none => rfl
      | some o' => rw [s0 _ _ v] at w; cases w
    have v : V2 b = none := by
      by_cases c : b = D
      · rw [c]; exact vD
      · exact gr.n b o ((upd_ne c).trans e) w'
    rw [v]
    exact w
  · have e2 : (match V2 b with | some o => some o | none => W b) = some o := e
    cases v : V2 b with
    | some o' =>
      rw [v] at e2
      cases e2
      have c : b ≠ D := fun z => by rw [z, vD] at v; cases v
      exact (upd_ne c).trans (sV _ _ v)
    | none =>
      rw [v] at e2
      have e2 : W b = some o := e2
      by_cases c : b = D
      · rw [c] at e2 ⊢
        rw [upd_same, ← wD, e2]
      · exact (upd_ne c).trans (keep b o c (sW _ _ e2))
/-- a turn of a comprehension to two names, no if -/
theorem turn2 {K : PySem.W.Frag} {te : TE} {ws : List Nat} {σ : L2.St} {D a : Addr} {Nx : Hp → Prop} {n m : Nat} {x y : V} {H : Hp} (h : SqT K H a [x, y]) (w : wipe (((wipe σ ws).set n (some x)).set m (some y)) ws = wipe σ ws)
    (q : te (((wipe σ ws).set n (some x)).set m (some y)) H fun z H4 => Rd.accs D Nx z H4) : Rd.turnC (gTup K 2 (gCons (gName n) (gCons (gName m) gNil))) tYes te ws σ D Nx (.ref a) H :=
  ⟨a, [x, y], rfl, h, rfl, x, [y], rfl, y, [], rfl, rfl, w, (show (if true = true then te (((wipe σ ws).set n (some x)).set m (some y)) H (fun y H4 => Rd.accs D Nx y H4) else Nx H) from iteT q)⟩
/-- a turn to a name and a pair of names -/
theorem turn21 {K : PySem.W.Frag} {te : TE} {ws : List Nat} {σ : L2.St} {D a b : Addr} {Nx : Hp → Prop} {n m l : Nat} {x y z : V} {H : Hp} (h : SqT K H a [x, .ref b]) (h2 : SqT K H b [y, z]) (w : wipe ((((wipe σ ws).set n (some x)).set m (some y)).set l (some z)) ws = wipe σ ws)
    (q : te ((((wipe σ ws).set n (some x)).set m (some y)).set l (some z)) H fun u H4 => Rd.accs D Nx u H4) : Rd.turnC (gTup K 2 (gCons (gName n) (gCons (gTup K 2 (gCons (gName m) (gCons (gName l) gNil))) gNil))) tYes te ws σ D Nx (.ref a) H :=
  ⟨a, [x, .ref b], rfl, h, rfl, x, [.ref b], rfl, .ref b, [], rfl, b, [y, z], rfl, h2, rfl, y, [z], rfl, z, [], rfl, rfl, rfl, w, (show (if true = true then te ((((wipe σ ws).set n (some x)).set m (some y)).set l (some z)) H (fun y H4 => Rd.accs D Nx y H4) else Nx H) from iteT q)⟩
abbrev s_Program_rights : Stmt := clsM (top 24) 1
abbrev N_Program_rights : List Str := ["self"]
theorem sc_Program_rights : FnScope N_Program_rights ["self"] (defScope s_Program_rights) := ⟨rfl, rfl, rfl, by decide +kernel, rfl, by decide +kernel, by decide +kernel⟩
abbrev s_Program_owners : Stmt := clsM (top 24) 2
abbrev N_Program_owners : List Str := ["self", "name", "rights"]
theorem sc_Program_owners : FnScope N_Program_owners ["self"] (defScope s_Program_owners) := ⟨rfl, rfl, rfl, by decide +kernel, rfl, by decide +kernel, by decide +kernel⟩
abbrev s_Program_functions : Stmt := clsM (top 24) 3
abbrev N_Program_functions : List Str := ["self", "name", "owner", "body"]
theorem sc_Program_functions : FnScope N_Program_functions ["self"] (defScope s_Program_functions) := ⟨rfl, rfl, rfl, by decide +kernel, rfl, by decide +kernel, by decide +kernel⟩
def sp_prights (K : PySem.W.Frag) (C : Addr) : Sp := fun vs H Q _ => ∃ (p : Addr) (W : Hp) (q : Parts), vs = [.ref p] ∧ PCls K C ∧ Same W H ∧ PAt K C W p q ∧ ∀ l H', H l = none → Same H H' → H' l = some (.lst (q.rs.map V.str)) → Q (.ref l) H'
def sp_powners (K : PySem.W.Frag) (C : Addr) : Sp := fun vs H Q _ => ∃ (p : Addr) (W : Hp) (q : Parts), vs = [.ref p] ∧ PCls K C ∧ Same W H ∧ PAt K C W p q ∧ ∀ l W' H', H l = none → Same H H' → Grow W W' H → Same W' H' → Dq K W' (.ref l) (ownD q.os) → Q (.ref l) H'
def sp_pfunctions (K : PySem.W.Frag) (C : Addr) : Sp := fun vs H Q _ => ∃ (p : Addr) (W : Hp) (q : Parts), vs = [.ref p] ∧ PCls K C ∧ Same W H ∧ PAt K C W p q ∧ ∀ l W' H', H l = none → Same H H' → Grow W W' H → Same W' H' → Dq K W' (.ref l) (funD q.fs) → Q (.ref l) H'
section
variable {P : Program} {w : World} {K : PySem.W.Frag} {mg : Str → Option Value} {base : Heap} {C f f_c : Addr} {fd fd_c : FuncData}
theorem ok_prights (F : FnM K "rights" "Program.rights" s_Program_rights f fd) (T : TxtN mg) : FnOk P w K mg base CX0 1 f fd ["self"] (sp_prights K C) := by
  refine F.ok sc_Program_rights (fun vs H Q E h => ?_) (fun cdv A outer s H vs Q E hr h => ?_)
  · obtain ⟨p, W, q, rfl, _⟩ := h
    rfl
  obtain ⟨p, W, q, rfl, hC, sW, ⟨W0, dx, L, D, B, kv1, kv2, s0, h1, h2, h3, h4, h5, h6, h7, h8, h9, h10⟩, hQ⟩ := h
  refine ⟨_, PSs.nox (pss_one (ps_ret (pe_callTy (show CallR _ (.type "list") (Rd.rListOf K) from Rd.c_listOf) (by rfl) T.m_list (by decide +kernel) (pa_cons (Rd.pe_fldK (K := K) rfl (pv 0) rfl) pa_nil)))), ?_⟩
  walk_at "rd"
  refine Rd.fldAt (sW _ _ h4) hC.c hC.n1 rfl ?_
  walk_at "rd"
  exact ⟨L, _, rfl, .inr (.inl (.inl (sW _ _ (s0 _ _ h5)))), fun l hl => hQ l _ hl (same_upd hl) upd_same⟩
theorem ok_powners (F : FnM K "owners" "Program.owners" s_Program_owners f fd) (T : TxtN mg) : FnOk P w K mg base CX0 1 f fd ["self"] (sp_powners K C) := by
  refine F.ok sc_Program_owners (fun vs H Q E h => ?_) (fun cdv A outer s H vs Q E hr h => ?_)
  · obtain ⟨p, W, q, rfl, _⟩ := h
    rfl
  obtain ⟨p, W, q, rfl, hC, sW, ⟨W0, dx, L, D, B, kv1, kv2, s0, h1, h2, h3, h4, h5, h6, h7, h8, h9, h10⟩, hQ⟩ := h
  refine ⟨_, PSs.nox (pss_one (ps_ret (pe_lock (pe_lc (own := [("name", 1), ("rights", 2)]) rfl sc_Program_owners.nd (pi_items (Rd.pe_fldK (K := K) rfl (pv 0) rfl)) (blkOk_by (N := N_Program_owners) (sc := defScope s_Program_owners) (by decide +kernel)) (fun _ _ _ _ _ => (Rd.pg_tupK (K := K) (n := 2) rfl (by rfl) (pgs_cons (pg_name (i := 1) sc_Program_owners.nd rfl (Or.inl rfl)) (pgs_cons (pg_name (i := 2) sc_Program_owners.nd rfl (Or.inl rfl)) pgs_nil)))) (fun _ _ _ _ _ => pts_nil) (fun _ _ _ _ _ => (pe_tup (pa_cons (pv 1) (pa_cons (pe_callTy (show CallR _ (.type "list") (Rd.rListOf K) from Rd.c_listOf) (by rfl) T.m_list (by decide +kernel) (pa_cons (pv 2) pa_nil)) pa_nil)))))))), ?_⟩
  walk_at "rd"
  have pD : p ≠ D := fun z => by rw [z, h6] at h4; cases h4
  refine ⟨D, .dK kv1, sW _ _ h6, trivial, fun ob => ?_⟩
  have s1 : Same W0 (upd H D (.frz ob (.dK kv1))) := fun b o e => (upd_ne (fun z => by rw [z, h2] at e; cases e)).trans (sW _ _ (s0 _ _ e))
  walk_at "rd"
  refine Rd.fldAt ((upd_ne pD).trans (sW _ _ h4)) hC.c hC.n2 rfl ?_
  refine Rd.d1 upd_same fun D2 hD2 => ?_
  refine Rd.byCJ (walk_items (kvs := kv1)) (fun i H' => ∃ (V2 : Hp) (its : List V), Grow W0 V2 (upd H D (.frz ob (.dK kv1))) ∧ Same V2 H' ∧ V2 D2 = none ∧ Same (upd H D (.frz ob (.dK kv1))) H' ∧ H' D2 = some (.lst its) ∧ DqAll K V2 its ((q.os.take i).map od))
    ⟨W0, [], Grow.refl, s1.trans (same_upd hD2), same_none s1 hD2, same_upd hD2, upd_same, .nil⟩ (fun i H' hi h => ?_) (fun i x H1 H' hi h hy => ?_) (fun H' h => ?_)
  · obtain ⟨_, _, _, _, _, a4, _⟩ := h
    exact a4 _ _ upd_same
  · obtain ⟨V2, its, a1, a2, a3, a4, a5, a6⟩ := h
    obtain ⟨T9, u1, u2, rfl, hT, rfl, e1, e2⟩ := hy
    obtain ⟨kv, hkv⟩ : ∃ kv, kv1[i]? = some kv := ⟨_, List.getElem?_eq_getElem hi⟩
    have e1 : (kv1[i]?.map fun kv => kV kv.1) = some u1 := e1
    have e2 : (kv1[i]?.map Prod.snd) = some u2 := e2
    rw [hkv] at e1 e2
    obtain ⟨n, rs, t, rfl, ho, ht⟩ := HeldE.get h8 hkv
    cases e1
    cases e2
    have hi2 := (List.getElem?_eq_some_iff.mp ho).1
    have s9 := same_upd (o := .tup [kV (.inr n), V.ref t]) hT
    refine turn2 (.inl (.inl upd_same)) rfl ?_
    walk_at "rd"
    refine ⟨t, _, rfl, .inr (.inl (.inl (s9 _ _ (a2 _ _ (a1.s _ _ ht))))), fun l hl => ?_⟩
    have sl := same_upd (o := .lst (rs.map V.str)) hl
    walk_at "rd"
    refine mkTs fun T2 H5 n5 s5 e5 => ?_
    have s95 := (s9.trans sl).trans s5
    have V2l : V2 l = none := same_none (a2.trans s9) hl
    have V2T : upd V2 l (.lst (rs.map V.str)) T2 = none := by
      rw [upd_ne (fun z => by rw [z, upd_same] at n5; cases n5)]
      exact same_none (a2.trans (s9.trans sl)) n5
    have Hl := same_none (a4.trans s9) hl
    have HT := same_none (a4.trans (s9.trans sl)) n5
    have Dl : D2 ≠ l := fun z => by rw [← z, s9 _ _ a5] at hl; cases hl
    have DT : D2 ≠ T2 := fun z => by rw [← z, (s9.trans sl) _ _ a5] at n5; cases n5
    have lT : l ≠ T2 := fun z => by rw [← z, upd_same] at n5; cases n5
    have lk : its.length < 1000 := by
      rw [dqAll_len a6, List.length_map, List.length_take]
      have := h10.o1
      omega
    have sV : Same (upd (upd V2 l (.lst (rs.map V.str))) T2 (.tup [.str n, .ref l])) H5 := same_put ((same_put ((a2.trans s9).trans sl) upd_same).trans s5) e5
    have wD : upd (upd V2 l (.lst (rs.map V.str))) T2 (.tup [.str n, .ref l]) D2 = none := (upd_ne DT).trans ((upd_ne Dl).trans a3)
    refine Rd.acc (s95 _ _ a5) lk ⟨upd (upd V2 l (.lst (rs.map V.str))) T2 (.tup [.str n, .ref l]), its ++ [.ref T2], (a1.put Hl V2l).put HT V2T, ?_, wD, ?_, upd_same, ?_⟩
    · intro y o e
      exact (upd_ne (fun z => by rw [z, wD] at e; cases e)).trans (sV _ _ e)
    · intro y o e
      exact (upd_ne (ne_of_none e hD2)).trans (s95 _ _ (a4 _ _ e))
    · rw [List.take_add_one, ho, List.map_append]
      refine dqAll_app ?_ (Dq.sameAll ((same_upd V2l).trans (same_upd V2T)) _ _ a6)
      exact .cons (.tup (.inl (.inl upd_same)) (.cons (.str n) (.cons (.lst (.inl (.inl ((upd_ne lT).trans upd_same))) (dqAll_strs rs)) .nil))) .nil
  · obtain ⟨V2, its, a1, a2, a3, a4, a5, a6⟩ := h
    have lk := HeldE.len h8
    rw [lk, List.take_length] at a6
    refine ⟨a4 _ _ upd_same, ?_⟩
    have HD2 : H D2 = none := by
      by_cases z : D2 = D
      · rw [z, upd_same] at hD2; cases hD2
      · rw [upd_ne z] at hD2; exact hD2
    have V2' : Grow W0 (upd V2 D2 (.lst its)) (upd H D (.frz ob (.dK kv1))) := a1.put hD2 a3
    obtain ⟨W9, b1, b2, b3, b4⟩ := unlock s0 h2 sW h6 V2' (same_put a2 a5) a4
    exact hQ D2 W9 _ HD2 b2 b3 b4 (Dq.same b1 _ _ (.lst (.inl (.inl upd_same)) (Dq.sameAll (same_upd a3) _ _ a6)))
end

end Bs
set_option Elab.async false
set_option linter.all false
set_option maxRecDepth 100000
set_option maxHeartbeats 200000
/-! the program's checks: steps -/
namespace Bs
open PySem PySem.Spec PyProof.Rows L2 Gd Er
local macro_rules | `(tactic| walk_at "rdc") => `(tactic| (first
  | assumption | exact Or.inl ⟨by omega, by omega⟩ | exact Or.inr ⟨by omega, by omega⟩ | exact Or.inl ⟨by decide, by decide⟩ | exact Or.inr ⟨by decide, by decide⟩
  | (show (0 : Int) < _; omega) | (show (0 : Int) < _; decide) | decide | omega | exact ⟨by decide, by decide, by decide⟩ | exact ⟨by decide, by decide +kernel⟩ | decide +kernel))
local macro_rules | `(tactic| walk_at "rdh") => `(tactic| (first | assumption | exact upd_same))
local macro_rules | `(tactic| walk_at "rd1") => `(tactic| (first
  | (with_reducible refine Rd.var rfl ?_) | (with_reducible refine Rd.con ?_) | (with_reducible refine Rd.op ?_) | (with_reducible refine Rd.un ?_) | (with_reducible refine Rd.i0 ?_) | (with_reducible refine Rd.iu ?_)
  | (with_reducible refine Rd.nil ?_) | (with_reducible refine Rd.cons ?_) | (with_reducible refine Rd.cb ?_) | (with_reducible refine Rd.asg ?_) | (with_reducible refine Rd.name ?_) | (with_reducible refine Rd.sub ?_) | (with_reducible refine Rd.rev ?_) | (with_reducible refine Rd.drop ?_) | (with_reducible refine Rd.bm ?_) | (with_reducible refine Rd.par ?_) | (with_reducible refine Rd.p2 ?_) | (with_reducible refine Rd.sl ?_) | (with_reducible refine Rd.noPart ?_) | (with_reducible refine Rd.part ?_) | (with_reducible refine Rd.int_ ?_) | (with_reducible refine Rd.seq ?_)
  | (with_reducible refine Rd.ret ?_) | (with_reducible refine Rd.retN ?_) | (with_reducible refine Rd.nxt ?_) | (with_reducible refine Rd.tst ?_) | (with_reducible refine Rd.tb_ ?_) | (with_reducible refine Rd.tnot ?_)
  | (with_reducible refine Rd.tor ?_) | (with_reducible refine Rd.tand ?_) | (with_reducible refine Rd.ifs ?_) | (with_reducible refine Rd.ife ?_) | (with_reducible refine Rd.lst ?_) | (with_reducible refine Rd.tup ?_)
  | (with_reducible refine Rd.int1 ?_) | (with_reducible refine Rd.bl ?_) | (with_reducible refine Rd.call ?_)
  | (with_reducible refine Rd.mx ?_) | (with_reducible refine Rd.bits ?_) | (with_reducible refine Rd.forR ?_) | (with_reducible refine Rd.forL ?_) | (with_reducible refine Rd.lcR ?_) | (with_reducible refine Rd.lcL ?_) | (with_reducible refine Rd.lcT ?_) | (with_reducible refine Rd.chain ?_) | (with_reducible refine Rd.notv ?_) | (with_reducible refine Rd.forS ?_) | (with_reducible refine Rd.lcS ?_) | (with_reducible refine Rd.str_ ?_) | (with_reducible refine Rd.forE ?_) | (with_reducible refine Rd.lcI ?_) | (with_reducible refine Rd.tgt ?_) | (with_reducible refine Rd.gcons ?_) | (with_reducible refine Rd.gnil ?_) | (with_reducible refine Rd.fld ?_) | (with_reducible refine Rd.sfld ?_) | (with_reducible refine Rd.meth ?_) | (with_reducible refine Rd.forT ?_)
  | ((with_reducible refine' Rd.ixLT ?rh ?ra ?_); (case rh => walk_at "rdh"); (case ra => rfl))
  | ((with_reducible refine' Rd.setL ?rh ?ra ?_); (case rh => walk_at "rdh"); (case ra => rfl))
  | ((with_reducible refine Rd.ic ?rc ?_); (case rc => walk_at "rdc"))))
local macro_rules | `(tactic| walk_at "rd") => `(tactic| (repeat (walk_at "rd1")))


section
variable {P : Program} {w : World} {K : PySem.W.Frag} {mg : Str → Option Value} {base : Heap} {C f f_c : Addr} {fd fd_c : FuncData}
theorem ok_pfunctions (F : FnM K "functions" "Program.functions" s_Program_functions f fd) (G_copied_body : FnOk P w K mg base CX0 14 f_c fd_c ["body"] (sp_cbody K 6)) (g_copied_body : mg "copied_body" = some (.ref f_c)) (k_copied_body : PySem.W.keepIn K (.ref f_c) = true) (b_copied_body : Binds K fd_c ["body"] []) (T : TxtN mg) :
    FnOk P w K mg base CX0 15 f fd ["self"] (sp_pfunctions K C) := by
  refine F.ok sc_Program_functions (fun vs H Q E h => ?_) (fun cdv A outer s H vs Q E hr h => ?_)
  · obtain ⟨p, W, q, rfl, _⟩ := h
    rfl
  obtain ⟨p, W, q, rfl, hC, sW, ⟨W0, dx, L, D, B, kv1, kv2, s0, h1, h2, h3, h4, h5, h6, h7, h8, h9, h10⟩, hQ⟩ := h
  refine ⟨_, PSs.nox (pss_one (ps_ret (pe_lock (pe_lc (own := [("name", 1), ("owner", 2), ("body", 3)]) rfl sc_Program_functions.nd (pi_items (Rd.pe_fldK (K := K) rfl (pv 0) rfl)) (blkOk_by (N := N_Program_functions) (sc := defScope s_Program_functions) (by decide +kernel)) (fun _ _ _ _ _ => (Rd.pg_tupK (K := K) (n := 2) rfl (by rfl) (pgs_cons (pg_name (i := 1) sc_Program_functions.nd rfl (Or.inl rfl)) (pgs_cons (Rd.pg_tupK (K := K) (n := 2) rfl (by rfl) (pgs_cons (pg_name (i := 2) sc_Program_functions.nd rfl (Or.inl rfl)) (pgs_cons (pg_name (i := 3) sc_Program_functions.nd rfl (Or.inl rfl)) pgs_nil))) pgs_nil)))) (fun _ _ _ _ _ => pts_nil) (fun _ _ _ _ _ => (pe_tup (pa_cons (pv 1) (pa_cons (pv 2) (pa_cons (pe_call G_copied_body (hr.mono (by decide)) rfl g_copied_body k_copied_body b_copied_body .nil pass0 (pa_cons (pv 3) pa_nil)) pa_nil))))))))), ?_⟩
  walk_at "rd"
  have pB : p ≠ B := fun z => by rw [z, h7] at h4; cases h4
  refine ⟨B, .dK kv2, sW _ _ h7, trivial, fun ob => ?_⟩
  have s1 : Same W0 (upd H B (.frz ob (.dK kv2))) := fun b o e => (upd_ne (fun z => by rw [z, h3] at e; cases e)).trans (sW _ _ (s0 _ _ e))
  walk_at "rd"
  refine Rd.fldAt ((upd_ne pB).trans (sW _ _ h4)) hC.c hC.n3 rfl ?_
  refine Rd.d1 upd_same fun D2 hD2 => ?_
  refine Rd.byCJ (walk_items (kvs := kv2)) (fun i H' => ∃ (V2 : Hp) (its : List V), Grow W0 V2 (upd H B (.frz ob (.dK kv2))) ∧ Same V2 H' ∧ V2 D2 = none ∧ Same (upd H B (.frz ob (.dK kv2))) H' ∧ H' D2 = some (.lst its) ∧ DqAll K V2 its ((q.fs.take i).map fd3))
    ⟨W0, [], Grow.refl, s1.trans (same_upd hD2), same_none s1 hD2, same_upd hD2, upd_same, .nil⟩ (fun i H' hi h => ?_) (fun i x H1 H' hi h hy => ?_) (fun H' h => ?_)
  · obtain ⟨_, _, _, _, _, a4, _⟩ := h
    exact a4 _ _ upd_same
  · obtain ⟨V2, its, a1, a2, a3, a4, a5, a6⟩ := h
    obtain ⟨T9, u1, u2, rfl, hT, rfl, e1, e2⟩ := hy
    obtain ⟨kv, hkv⟩ : ∃ kv, kv2[i]? = some kv := ⟨_, List.getElem?_eq_getElem hi⟩
    have e1 : (kv2[i]?.map fun kv => kV kv.1) = some u1 := e1
    have e2 : (kv2[i]?.map Prod.snd) = some u2 := e2
    rw [hkv] at e1 e2
    obtain ⟨n, o, b, t, y, rfl, ho, ht, hd⟩ := BodE.get h9 hkv
    cases e1
    cases e2
    have hi2 := (List.getElem?_eq_some_iff.mp ho).1
    obtain ⟨m1, m2, m3, m4, m5⟩ := h10.ff _ (List.mem_of_getElem? ho)
    obtain ⟨w1, w2⟩ := bdy_wide m5
    have s9 := same_upd (o := .tup [kV (.inr n), V.ref t]) hT
    refine turn21 (.inl (.inl upd_same)) (.inl (.inl (s9 _ _ (a2 _ _ (a1.s _ _ ht))))) rfl ?_
    walk_at "rd"
    refine ⟨y, V2, b, rfl, a2.trans s9, Dq.same a1.s _ _ hd, m4, w1, w2, fun T8 V8 H8 r1 r2 r3 r4 r5 => ?_⟩
    walk_at "rd"
    refine mkTs fun T2 H5 n5 s5 e5 => ?_
    have s95 := (s9.trans r1).trans s5
    have V8T : V8 T2 = none := same_none r3 n5
    have V8D : V8 D2 = none := r2.n D2 _ (s9 _ _ a5) a3
    have HT := same_none (a4.trans (s9.trans r1)) n5
    have DT : D2 ≠ T2 := fun z => by rw [← z, r1 _ _ (s9 _ _ a5)] at n5; cases n5
    have lk : its.length < 1000 := by
      rw [dqAll_len a6, List.length_map, List.length_take]
      have := h10.f1
      omega
    have sV : Same (upd V8 T2 (.tup [.str n, .str o, .ref T8])) H5 := same_put (r3.trans s5) e5
    have wD : upd V8 T2 (.tup [.str n, .str o, .ref T8]) D2 = none := (upd_ne DT).trans V8D
    refine Rd.acc (s95 _ _ a5) lk ⟨upd V8 T2 (.tup [.str n, .str o, .ref T8]), its ++ [.ref T2], (a1.trans r2 (Same.alive (a4.trans s9))).put HT V8T, ?_, wD, ?_, upd_same, ?_⟩
    · intro z u e
      exact (upd_ne (fun v => by rw [v, wD] at e; cases e)).trans (sV _ _ e)
    · intro z u e
      exact (upd_ne (ne_of_none e hD2)).trans (s95 _ _ (a4 _ _ e))
    · rw [List.take_add_one, ho, List.map_append]
      refine dqAll_app ?_ (Dq.sameAll (r2.s.trans (same_upd V8T)) _ _ a6)
      exact .cons (.tup (.inl (.inl upd_same)) (.cons (.str n) (.cons (.str o) (.cons (Dq.same (same_upd V8T) _ _ r4) .nil)))) .nil
  · obtain ⟨V2, its, a1, a2, a3, a4, a5, a6⟩ := h
    have lk := BodE.len h9
    rw [lk, List.take_length] at a6
    refine ⟨a4 _ _ upd_same, ?_⟩
    have HD2 : H D2 = none := by
      by_cases z : D2 = B
      · rw [z, upd_same] at hD2; cases hD2
      · rw [upd_ne z] at hD2; exact hD2
    have V2' : Grow W0 (upd V2 D2 (.lst its)) (upd H B (.frz ob (.dK kv2))) := a1.put hD2 a3
    obtain ⟨W9, b1, b2, b3, b4⟩ := unlock s0 h3 sW h7 V2' (same_put a2 a5) a4
    exact hQ D2 W9 _ HD2 b2 b3 b4 (Dq.same b1 _ _ (.lst (.inl (.inl upd_same)) (Dq.sameAll (same_upd a3) _ _ a6)))
end

end Bs
set_option Elab.async false
set_option linter.all false
set_option maxRecDepth 100000
set_option maxHeartbeats 200000
/-! the program's checks: steps -/
namespace Bs
open PySem PySem.Spec PyProof.Rows L2 Gd Er
local macro_rules | `(tactic| walk_at "rdc") => `(tactic| (first
  | assumption | exact Or.inl ⟨by omega, by omega⟩ | exact Or.inr ⟨by omega, by omega⟩ | exact Or.inl ⟨by decide, by decide⟩ | exact Or.inr ⟨by decide, by decide⟩
  | (show (0 : Int) < _; omega) | (show (0 : Int) < _; decide) | decide | omega | exact ⟨by decide, by decide, by decide⟩ | exact ⟨by decide, by decide +kernel⟩ | decide +kernel))
local macro_rules | `(tactic| walk_at "rdh") => `(tactic| (first | assumption | exact upd_same))
local macro_rules | `(tactic| walk_at "rd1") => `(tactic| (first
  | (with_reducible refine Rd.var rfl ?_) | (with_reducible refine Rd.con ?_) | (with_reducible refine Rd.op ?_) | (with_reducible refine Rd.un ?_) | (with_reducible refine Rd.i0 ?_) | (with_reducible refine Rd.iu ?_)
  | (with_reducible refine Rd.nil ?_) | (with_reducible refine Rd.cons ?_) | (with_reducible refine Rd.cb ?_) | (with_reducible refine Rd.asg ?_) | (with_reducible refine Rd.name ?_) | (with_reducible refine Rd.sub ?_) | (with_reducible refine Rd.rev ?_) | (with_reducible refine Rd.drop ?_) | (with_reducible refine Rd.bm ?_) | (with_reducible refine Rd.par ?_) | (with_reducible refine Rd.p2 ?_) | (with_reducible refine Rd.sl ?_) | (with_reducible refine Rd.noPart ?_) | (with_reducible refine Rd.part ?_) | (with_reducible refine Rd.int_ ?_) | (with_reducible refine Rd.seq ?_)
  | (with_reducible refine Rd.ret ?_) | (with_reducible refine Rd.retN ?_) | (with_reducible refine Rd.nxt ?_) | (with_reducible refine Rd.tst ?_) | (with_reducible refine Rd.tb_ ?_) | (with_reducible refine Rd.tnot ?_)
  | (with_reducible refine Rd.tor ?_) | (with_reducible refine Rd.tand ?_) | (with_reducible refine Rd.ifs ?_) | (with_reducible refine Rd.ife ?_) | (with_reducible refine Rd.lst ?_) | (with_reducible refine Rd.tup ?_)
  | (with_reducible refine Rd.int1 ?_) | (with_reducible refine Rd.bl ?_) | (with_reducible refine Rd.call ?_)
  | (with_reducible refine Rd.mx ?_) | (with_reducible refine Rd.bits ?_) | (with_reducible refine Rd.forR ?_) | (with_reducible refine Rd.forL ?_) | (with_reducible refine Rd.lcR ?_) | (with_reducible refine Rd.lcL ?_) | (with_reducible refine Rd.lcT ?_) | (with_reducible refine Rd.chain ?_) | (with_reducible refine Rd.notv ?_) | (with_reducible refine Rd.forS ?_) | (with_reducible refine Rd.lcS ?_) | (with_reducible refine Rd.str_ ?_) | (with_reducible refine Rd.forE ?_) | (with_reducible refine Rd.lcI ?_) | (with_reducible refine Rd.tgt ?_) | (with_reducible refine Rd.gcons ?_) | (with_reducible refine Rd.gnil ?_) | (with_reducible refine Rd.fld ?_) | (with_reducible refine Rd.sfld ?_) | (with_reducible refine Rd.meth ?_) | (with_reducible refine Rd.forT ?_)
  | ((with_reducible refine' Rd.ixLT ?rh ?ra ?_); (case rh => walk_at "rdh"); (case ra => rfl))
  | ((with_reducible refine' Rd.setL ?rh ?ra ?_); (case rh => walk_at "rdh"); (case ra => rfl))
  | ((with_reducible refine Rd.ic ?rc ?_); (case rc => walk_at "rdc"))))
local macro_rules | `(tactic| walk_at "rd") => `(tactic| (repeat (walk_at "rd1")))


/-! ### _law_program -/
theorem turn3 {K : PySem.W.Frag} {te : TE} {ws : List Nat} {σ : L2.St} {D a : Addr} {Nx : Hp → Prop} {n m l : Nat} {x y z : V} {H : Hp} (h : SqT K H a [x, y, z]) (w : wipe ((((wipe σ ws).set n (some x)).set m (some y)).set l (some z)) ws = wipe σ ws)
    (q : te ((((wipe σ ws).set n (some x)).set m (some y)).set l (some z)) H fun u H4 => Rd.accs D Nx u H4) : Rd.turnC (gTup K 3 (gCons (gName n) (gCons (gName m) (gCons (gName l) gNil)))) tYes te ws σ D Nx (.ref a) H :=
  ⟨a, [x, y, z], rfl, h, rfl, x, [y, z], rfl, y, [z], rfl, z, [], rfl, rfl, w, (show (if true = true then te ((((wipe σ ws).set n (some x)).set m (some y)).set l (some z)) H (fun y H4 => Rd.accs D Nx y H4) else Nx H) from iteT q)⟩
theorem make_ {C : Addr} {sp : Sp} {dvs : List V} {E : XK} {t : TA} {σ : L2.St} {H : Hp} {Q : VK} (q : t σ H fun vs H1 => ∀ x dx, H1 x = none → H1 dx = none → dx ≠ x → sp (.ref x :: (vs ++ dvs)) (upd (upd H1 dx (.own x)) x (.ins C dx [])) (fun v H2 => v = .non ∧ Q (.ref x) H2) E) : tMake C sp dvs E t σ H Q := q
abbrev s_law_program : Stmt := top 38
abbrev N_law_program : List Str := ["parts", "owners", "name", "rights", "owner", "body"]
theorem sc_law_program : FnScope N_law_program ["parts"] (defScope s_law_program) := ⟨rfl, rfl, rfl, by decide +kernel, rfl, by decide +kernel, by decide +kernel⟩
def sp_lprogram (K : PySem.W.Frag) (C : Addr) : Sp := fun vs H Q _ => ∃ (T r o f : Addr) (W : Hp) (q : Parts), vs = [.ref T] ∧ PCls K C ∧ Same W H ∧ SqL K H T [.ref r, .ref o, .ref f] ∧ Dq K W (.ref r) (rigD q.rs) ∧ Dq K W (.ref o) (ownD q.os) ∧ Dq K W (.ref f) (funD q.fs) ∧ Fits q ∧ GiveP K C W H q Q
section
variable {P : Program} {w : World} {K : PySem.W.Frag} {mg : Str → Option Value} {base : Heap} {C f f_c f_i : Addr} {fd fd_c fd_i : FuncData}
theorem ok_lprogram (F : FnP K "_law_program" s_law_program f fd) (G_law_copied : FnOk P w K mg base CX0 7 f_c fd_c ["body"] (sp_copied K 6)) (g_law_copied : mg "_law_copied" = some (.ref f_c)) (k_law_copied : PySem.W.keepIn K (.ref f_c) = true) (b_law_copied : Binds K fd_c ["body"] [])
    (M_Program : Mk K C f_i) (G_Program : FnOk P w K mg base CX0 16 f_i fd_i ["self", "rights", "owners", "functions"] (sp_pinit K)) (g_Program : mg "Program" = some (.ref C)) (b_Program : Binds K fd_i ["self", "rights", "owners", "functions"] []) (T : TxtN mg) :
    FnOk P w K mg base CX0 18 f fd ["parts"] (sp_lprogram K C) := by
  refine F.ok sc_law_program (fun vs H Q E h => ?_) (fun cdv A outer s H vs Q E hr h => ?_)
  · obtain ⟨T0, r, o, g, W, q, rfl, _⟩ := h
    rfl
  obtain ⟨T0, r, o, g, W, q, rfl, hC, sW, hT, dr, dO, df, ft, hQ⟩ := h
  obtain ⟨_, rx, e0, hR, hRx⟩ := lst_inv dr
  cases e0
  have er := strs_inv hRx
  subst er
  obtain ⟨_, ox, e0, hO, hOx⟩ := lst_inv dO
  cases e0
  obtain ⟨_, fx, e0, hF, hFx⟩ := lst_inv df
  cases e0
  refine ⟨_, PSs.nox (pss_cons (ps_setLc (i := 1) (own := [("name", 2), ("rights", 3)]) rfl sc_law_program.nd rfl rfl (sw_true rfl rfl rfl (by decide +kernel)) (Rd.pi_listK (K := K) rfl (pe_ix (show IxR _ (rIxL K) from ix_list) (pv 0) pe_int (fun _ _ => rfl))) (blkOk_by (N := N_law_program) (sc := defScope s_law_program) (by decide +kernel)) (fun _ _ _ _ _ => (Rd.pg_tupK (K := K) (n := 2) rfl (by rfl) (pgs_cons (pg_name (i := 2) sc_law_program.nd rfl (Or.inl rfl)) (pgs_cons (pg_name (i := 3) sc_law_program.nd rfl (Or.inl rfl)) pgs_nil)))) (fun _ _ _ _ _ => pts_nil) (fun _ _ _ _ _ => (pe_tup (pa_cons (pv 2) (pa_cons (pe_callTy (show CallR _ (.type "list") (Rd.rListOf K) from Rd.c_listOf) (by rfl) T.m_list (by decide +kernel) (pa_cons (pv 3) pa_nil)) pa_nil)))))
    (pss_one (ps_ret (pe_make M_Program G_Program (hr.mono (by omega)) (by rfl) g_Program b_Program .nil pass0 (pa_cons (pe_callTy (show CallR _ (.type "list") (Rd.rListOf K) from Rd.c_listOf) (by rfl) T.m_list (by decide +kernel) (pa_cons (pe_ix (show IxR _ (rIxL K) from ix_list) (pv 0) pe_int (fun _ _ => rfl)) pa_nil)) (pa_cons (pv 1) (pa_cons (pe_lc (own := [("name", 2), ("owner", 4), ("body", 5)]) rfl sc_law_program.nd (Rd.pi_listK (K := K) rfl (pe_ix (show IxR _ (rIxL K) from ix_list) (pv 0) pe_int (fun _ _ => rfl))) (blkOk_by (N := N_law_program) (sc := defScope s_law_program) (by decide +kernel)) (fun _ _ _ _ _ => (Rd.pg_tupK (K := K) (n := 3) rfl (by rfl) (pgs_cons (pg_name (i := 2) sc_law_program.nd rfl (Or.inl rfl)) (pgs_cons (pg_name (i := 4) sc_law_program.nd rfl (Or.inl rfl)) (pgs_cons (pg_name (i := 5) sc_law_program.nd rfl (Or.inl rfl)) pgs_nil))))) (fun _ _ _ _ _ => pts_nil) (fun _ _ _ _ _ => (pe_tup (pa_cons (pv 2) (pa_cons (pv 4) (pa_cons (pe_call G_law_copied (hr.mono (by omega)) rfl g_law_copied k_law_copied b_law_copied .nil pass0 (pa_cons (pv 5) pa_nil)) pa_nil)))))) pa_nil))))))), ?_⟩
  walk_at "rd"
  refine Rd.ixL hT at1 ?_
  refine Rd.l1 (sW.seq hO) fun D hD => ?_
  refine Rd.byCL (xs := ox) (fun i H' => ∃ (W' : Hp) (its : List V), Grow W W' H ∧ Same W' H' ∧ W' D = none ∧ Same H H' ∧ H' D = some (.lst its) ∧ DqAll K W' its ((q.os.take i).map od))
    ⟨W, [], Grow.refl, sW.trans (same_upd hD), same_none sW hD, same_upd hD, upd_same, .nil⟩ (fun i H' hi h => ?_) (fun i x H' hi h => ?_) (fun H3 h => ?_)
  · obtain ⟨W', _, a1, a2, _⟩ := h
    exact a2.seq (a1.s.seq hO)
  · obtain ⟨W', its, a1, a2, a3, a4, a5, a6⟩ := h
    obtain ⟨d, hd, hxd⟩ := dqAll_get hOx hi
    rw [List.getElem?_map] at hd
    obtain ⟨ow, ho, rfl⟩ := Option.map_eq_some_iff.mp hd
    have hi2 := (List.getElem?_eq_some_iff.mp ho).1
    obtain ⟨t, l, rfl, ht, hl⟩ := own_inv (Dq.same a1.s _ _ hxd)
    refine turn2 (sqT_same a2 ht) rfl ?_
    walk_at "rd"
    refine ⟨l, _, rfl, .inl (a2.seq hl), fun l2 hl2 => ?_⟩
    have sl := same_upd (o := .lst (ow.2.map V.str)) hl2
    walk_at "rd"
    refine mkTs fun T2 H5 n5 s5 e5 => ?_
    have s95 := sl.trans s5
    have W2l : W' l2 = none := same_none a2 hl2
    have W2T : upd W' l2 (.lst (ow.2.map V.str)) T2 = none := by
      rw [upd_ne (fun z => by rw [z, upd_same] at n5; cases n5)]
      exact same_none (a2.trans sl) n5
    have Dl : D ≠ l2 := fun z => by rw [← z, a5] at hl2; cases hl2
    have DT : D ≠ T2 := fun z => by rw [← z, sl _ _ a5] at n5; cases n5
    have lT : l2 ≠ T2 := fun z => by rw [← z, upd_same] at n5; cases n5
    have lk : its.length < 1000 := by
      rw [dqAll_len a6, List.length_map, List.length_take]
      have := ft.o1
      omega
    have sV : Same (upd (upd W' l2 (.lst (ow.2.map V.str))) T2 (.tup [.str ow.1, .ref l2])) H5 := same_put ((same_put (a2.trans sl) upd_same).trans s5) e5
    have wD : upd (upd W' l2 (.lst (ow.2.map V.str))) T2 (.tup [.str ow.1, .ref l2]) D = none := (upd_ne DT).trans ((upd_ne Dl).trans a3)
    refine Rd.acc (s95 _ _ a5) lk ⟨upd (upd W' l2 (.lst (ow.2.map V.str))) T2 (.tup [.str ow.1, .ref l2]), its ++ [.ref T2], (a1.put (same_none a4 hl2) W2l).put (same_none (a4.trans sl) n5) W2T, ?_, wD, ?_, upd_same, ?_⟩
    · intro y u e
      exact (upd_ne (fun z => by rw [z, wD] at e; cases e)).trans (sV _ _ e)
    · intro y u e
      exact (upd_ne (ne_of_none e hD)).trans (s95 _ _ (a4 _ _ e))
    · rw [List.take_add_one, ho, List.map_append]
      refine dqAll_app ?_ (Dq.sameAll ((same_upd W2l).trans (same_upd W2T)) _ _ a6)
      exact .cons (.tup (.inl (.inl upd_same)) (.cons (.str ow.1) (.cons (.lst (.inl (.inl ((upd_ne lT).trans upd_same))) (dqAll_strs ow.2)) .nil))) .nil
  obtain ⟨W3, its, a1, a2, a3, a4, a5, a6⟩ := h
  rw [dqAll_len hOx, List.length_map, List.take_length] at a6
  have dO3 : Dq K (upd W3 D (.lst its)) (.ref D) (ownD q.os) := .lst (.inl (.inl upd_same)) (Dq.sameAll (same_upd a3) _ _ a6)
  have g3 : Grow W (upd W3 D (.lst its)) H := a1.put hD a3
  have s3 : Same (upd W3 D (.lst its)) H3 := same_put a2 a5
  generalize upd W3 D (.lst its) = W4 at *
  clear a1 a2 a3 a5 a6
  walk_at "rd"
  refine make_ ?_
  walk_at "rd"
  refine Rd.ixL (a4.seq hT) at0 ?_
  walk_at "rd"
  refine ⟨r, _, rfl, .inl (a4.seq (sW.seq hR)), fun r2 hr2 => ?_⟩
  have s4 := same_upd (o := .lst (q.rs.map V.str)) hr2
  walk_at "rd"
  refine Rd.ixL ((a4.trans s4).seq hT) (show atI _ ((2 : Nat) : Int) = _ from atI_nat rfl) ?_
  have W4r : W4 r2 = none := same_none s3 hr2
  have g5 : Grow W (upd W4 r2 (.lst (q.rs.map V.str))) H := g3.put (same_none a4 hr2) W4r
  have s5 : Same (upd W4 r2 (.lst (q.rs.map V.str))) (upd H3 r2 (.lst (q.rs.map V.str))) := same_put (s3.trans s4) upd_same
  have dO5 := Dq.same (same_upd (o := .lst (q.rs.map V.str)) W4r) _ _ dO3
  have dR5 : Dq K (upd W4 r2 (.lst (q.rs.map V.str))) (.ref r2) (rigD q.rs) := .lst (.inl (.inl upd_same)) (dqAll_strs q.rs)
  have s05 := a4.trans s4
  generalize upd W4 r2 (.lst (q.rs.map V.str)) = W5 at *
  generalize upd H3 r2 (.lst (q.rs.map V.str)) = H5 at *
  refine Rd.l1 (s05.seq (sW.seq hF)) fun D2 hD2 => ?_
  refine Rd.byCL (xs := fx) (fun i H' => ∃ (W' : Hp) (its : List V), Grow W W' H ∧ Same W5 W' ∧ Same W' H' ∧ W' D2 = none ∧ Same H H' ∧ H' D2 = some (.lst its) ∧ DqAll K W' its ((q.fs.take i).map fd3))
    ⟨W5, [], g5, Same.refl W5, s5.trans (same_upd hD2), same_none s5 hD2, s05.trans (same_upd hD2), upd_same, .nil⟩ (fun i H' hi h => ?_) (fun i x H' hi h => ?_) (fun H6 h => ?_)
  · obtain ⟨W', _, a1, _, a2, _⟩ := h
    exact a2.seq (a1.s.seq hF)
  · obtain ⟨W', its, a1, aw, a2, a3, a4, a5, a6⟩ := h
    obtain ⟨d, hd, hxd⟩ := dqAll_get hFx hi
    rw [List.getElem?_map] at hd
    obtain ⟨fw, ho, rfl⟩ := Option.map_eq_some_iff.mp hd
    have hi2 := (List.getElem?_eq_some_iff.mp ho).1
    obtain ⟨m1, m2, m3, m4, m5⟩ := ft.ff _ (List.mem_of_getElem? ho)
    obtain ⟨w1, w2⟩ := bdy_wide m5
    obtain ⟨t, y, rfl, ht, hy⟩ := fun_inv (Dq.same a1.s _ _ hxd)
    refine turn3 (sqT_same a2 ht) rfl ?_
    walk_at "rd"
    refine ⟨y, W', fw.2.2, rfl, a2, hy, m4, w1, w2, fun T8 V8 H8 r1 r2 r3 r4 r5 => ?_⟩
    walk_at "rd"
    refine mkTs fun T2 H9 n9 s9 e9 => ?_
    have s95 := r1.trans s9
    have V8T : V8 T2 = none := same_none r3 n9
    have V8D : V8 D2 = none := r2.n D2 _ a5 a3
    have DT : D2 ≠ T2 := fun z => by rw [← z, r1 _ _ a5] at n9; cases n9
    have lk : its.length < 1000 := by
      rw [dqAll_len a6, List.length_map, List.length_take]
      have := ft.f1
      omega
    have sV : Same (upd V8 T2 (.tup [.str fw.1, .str fw.2.1, .ref T8])) H9 := same_put (r3.trans s9) e9
    have wD : upd V8 T2 (.tup [.str fw.1, .str fw.2.1, .ref T8]) D2 = none := (upd_ne DT).trans V8D
    refine Rd.acc (s95 _ _ a5) lk ⟨upd V8 T2 (.tup [.str fw.1, .str fw.2.1, .ref T8]), its ++ [.ref T2], (a1.trans r2 (Same.alive a4)).put (same_none (a4.trans r1) n9) V8T, (aw.trans r2.s).trans (same_upd V8T), ?_, wD, ?_, upd_same, ?_⟩
    · intro z u e
      exact (upd_ne (fun v => by rw [v, wD] at e; cases e)).trans (sV _ _ e)
    · intro z u e
      by_cases c : z = D2
      · rw [c] at e
        have := s05 _ _ e
        rw [this] at hD2
        cases hD2
      · exact (upd_ne c).trans (s95 _ _ (a4 _ _ e))
    · rw [List.take_add_one, ho, List.map_append]
      refine dqAll_app ?_ (Dq.sameAll (r2.s.trans (same_upd V8T)) _ _ a6)
      exact .cons (.tup (.inl (.inl upd_same)) (.cons (.str _) (.cons (.str _) (.cons (Dq.same (same_upd V8T) _ _ r4) .nil)))) .nil
  obtain ⟨W6, its2, a1, aw, a2, a3, a4', a5, a6⟩ := h
  rw [dqAll_len hFx, List.length_map, List.take_length] at a6
  have HD2 : H D2 = none := same_none s05 hD2
  have gr : Grow W (upd W6 D2 (.lst its2)) H := a1.put HD2 a3
  have sw : Same W5 (upd W6 D2 (.lst its2)) := aw.trans (same_upd a3)
  refine mkProg hC (same_put a2 a5) (Dq.same sw _ _ dR5) (Dq.same sw _ _ dO5) (.lst (.inl (.inl upd_same)) (Dq.sameAll (same_upd a3) _ _ a6)) ft fun p W7 H7 b1 b2 b3 b4 b5 => ?_
  exact hQ p W7 H7 (a4'.trans b1) (gr.trans b2 (Same.alive a4')) b3 b4 (same_none a4' b5)
end

end Bs
set_option Elab.async false
set_option linter.all false
set_option maxRecDepth 100000
set_option maxHeartbeats 200000
/-! the program's checks: steps -/
namespace Bs
open PySem PySem.Spec PyProof.Rows L2 Gd Er
local macro_rules | `(tactic| walk_at "rdc") => `(tactic| (first
  | assumption | exact Or.inl ⟨by omega, by omega⟩ | exact Or.inr ⟨by omega, by omega⟩ | exact Or.inl ⟨by decide, by decide⟩ | exact Or.inr ⟨by decide, by decide⟩
  | (show (0 : Int) < _; omega) | (show (0 : Int) < _; decide) | decide | omega | exact ⟨by decide, by decide, by decide⟩ | exact ⟨by decide, by decide +kernel⟩ | decide +kernel))
local macro_rules | `(tactic| walk_at "rdh") => `(tactic| (first | assumption | exact upd_same))
local macro_rules | `(tactic| walk_at "rd1") => `(tactic| (first
  | (with_reducible refine Rd.var rfl ?_) | (with_reducible refine Rd.con ?_) | (with_reducible refine Rd.op ?_) | (with_reducible refine Rd.un ?_) | (with_reducible refine Rd.i0 ?_) | (with_reducible refine Rd.iu ?_)
  | (with_reducible refine Rd.nil ?_) | (with_reducible refine Rd.cons ?_) | (with_reducible refine Rd.cb ?_) | (with_reducible refine Rd.asg ?_) | (with_reducible refine Rd.name ?_) | (with_reducible refine Rd.sub ?_) | (with_reducible refine Rd.rev ?_) | (with_reducible refine Rd.drop ?_) | (with_reducible refine Rd.bm ?_) | (with_reducible refine Rd.par ?_) | (with_reducible refine Rd.p2 ?_) | (with_reducible refine Rd.sl ?_) | (with_reducible refine Rd.noPart ?_) | (with_reducible refine Rd.part ?_) | (with_reducible refine Rd.int_ ?_) | (with_reducible refine Rd.seq ?_)
  | (with_reducible refine Rd.ret ?_) | (with_reducible refine Rd.retN ?_) | (with_reducible refine Rd.nxt ?_) | (with_reducible refine Rd.tst ?_) | (with_reducible refine Rd.tb_ ?_) | (with_reducible refine Rd.tnot ?_)
  | (with_reducible refine Rd.tor ?_) | (with_reducible refine Rd.tand ?_) | (with_reducible refine Rd.ifs ?_) | (with_reducible refine Rd.ife ?_) | (with_reducible refine Rd.lst ?_) | (with_reducible refine Rd.tup ?_)
  | (with_reducible refine Rd.int1 ?_) | (with_reducible refine Rd.bl ?_) | (with_reducible refine Rd.call ?_)
  | (with_reducible refine Rd.mx ?_) | (with_reducible refine Rd.bits ?_) | (with_reducible refine Rd.forR ?_) | (with_reducible refine Rd.forL ?_) | (with_reducible refine Rd.lcR ?_) | (with_reducible refine Rd.lcL ?_) | (with_reducible refine Rd.lcT ?_) | (with_reducible refine Rd.chain ?_) | (with_reducible refine Rd.notv ?_) | (with_reducible refine Rd.forS ?_) | (with_reducible refine Rd.lcS ?_) | (with_reducible refine Rd.str_ ?_) | (with_reducible refine Rd.forE ?_) | (with_reducible refine Rd.lcI ?_) | (with_reducible refine Rd.tgt ?_) | (with_reducible refine Rd.gcons ?_) | (with_reducible refine Rd.gnil ?_) | (with_reducible refine Rd.fld ?_) | (with_reducible refine Rd.sfld ?_) | (with_reducible refine Rd.meth ?_) | (with_reducible refine Rd.forT ?_)
  | ((with_reducible refine' Rd.ixLT ?rh ?ra ?_); (case rh => walk_at "rdh"); (case ra => rfl))
  | ((with_reducible refine' Rd.setL ?rh ?ra ?_); (case rh => walk_at "rdh"); (case ra => rfl))
  | ((with_reducible refine Rd.ic ?rc ?_); (case rc => walk_at "rdc"))))
local macro_rules | `(tactic| walk_at "rd") => `(tactic| (repeat (walk_at "rd1")))


/-! ### what is drawn fits -/
theorem names_all : ∀ x, x ∈ allR ++ allO ++ allN → NameOk x := by decide
theorem drawn_fits {p : Parts} {many : Nat} (d : Drawn p many) (h1 : 1 ≤ many) (h4 : many ≤ 4) : Fits p := by
  obtain ⟨⟨k, hk, hr⟩, ⟨⟨j, hj, ho⟩, hoo⟩, hn, hf⟩ := d
  have rl : p.rs.length = k + 1 := by
    rw [hr, List.length_take]
    show min (k + 1) 3 = k + 1
    omega
  have ol : p.os.length = j + 1 := by
    have e : (p.os.map (·.1)).length = j + 1 := by
      rcases ho with ho | ho
      · rw [ho, List.length_take]
        show min (j + 1) 3 = j + 1
        omega
      · rw [ho, List.length_reverse, List.length_take]
        show min (j + 1) 3 = j + 1
        omega
    rw [List.length_map] at e
    exact e
  have fl : p.fs.length = many := by
    have e := congrArg List.length hn
    rw [List.length_map, List.length_take] at e
    rw [e]
    show min many 4 = many
    omega
  have oN : ∀ o, o ∈ p.os → NameOk o.1 := fun o h => by
    have m : o.1 ∈ p.os.map (·.1) := List.mem_map.mpr ⟨o, h, rfl⟩
    refine names_all _ (List.mem_append_left _ (List.mem_append_right _ ?_))
    rcases ho with ho | ho
    · rw [ho] at m
      exact List.mem_of_mem_take m
    · rw [ho] at m
      exact List.mem_of_mem_take (List.mem_reverse.mp m)
  have ndO : (p.os.map (·.1)).Nodup := by
    have t : (allO.take (j + 1)).Nodup := List.Sublist.nodup (List.take_sublist _ _) (by decide)
    rcases ho with ho | ho
    · rw [ho]; exact t
    · rw [ho]; exact List.pairwise_reverse.mpr (t.imp Ne.symm)
  refine { r0 := by omega, r1 := by omega, rn := fun r h => names_all _ (List.mem_append_left _ (List.mem_append_left _ (by rw [hr] at h; exact List.mem_of_mem_take h))), rd := ?_, o0 := by omega, o1 := by omega, oo := fun o h => ?_, od := ndO, f0 := by omega, f1 := by omega, fd := ?_, ff := fun f h => ?_ }
  · rw [hr]
    exact List.Sublist.nodup (List.take_sublist _ _) (by decide)
  · obtain ⟨a, b, c⟩ := hoo o h
    exact ⟨oN o h, a, b, by omega⟩
  · rw [hn]
    exact List.Sublist.nodup (List.take_sublist _ _) (by decide)
  · obtain ⟨a, b, c, e⟩ := hf f h
    have m : f.1 ∈ p.fs.map (·.1) := List.mem_map.mpr ⟨f, h, rfl⟩
    rw [hn] at m ⊢
    exact ⟨names_all _ (List.mem_append_right _ (List.mem_of_mem_take m)), a, b, by omega, Bdy.wide_of _ (by omega)⟩

end Bs
set_option Elab.async false
set_option linter.all false
set_option maxRecDepth 100000
set_option maxHeartbeats 200000
/-! the program's checks: steps -/
namespace Bs
open PySem PySem.Spec PyProof.Rows L2 Gd Er
local macro_rules | `(tactic| walk_at "rdc") => `(tactic| (first
  | assumption | exact Or.inl ⟨by omega, by omega⟩ | exact Or.inr ⟨by omega, by omega⟩ | exact Or.inl ⟨by decide, by decide⟩ | exact Or.inr ⟨by decide, by decide⟩
  | (show (0 : Int) < _; omega) | (show (0 : Int) < _; decide) | decide | omega | exact ⟨by decide, by decide, by decide⟩ | exact ⟨by decide, by decide +kernel⟩ | decide +kernel))
local macro_rules | `(tactic| walk_at "rdh") => `(tactic| (first | assumption | exact upd_same))
local macro_rules | `(tactic| walk_at "rd1") => `(tactic| (first
  | (with_reducible refine Rd.var rfl ?_) | (with_reducible refine Rd.con ?_) | (with_reducible refine Rd.op ?_) | (with_reducible refine Rd.un ?_) | (with_reducible refine Rd.i0 ?_) | (with_reducible refine Rd.iu ?_)
  | (with_reducible refine Rd.nil ?_) | (with_reducible refine Rd.cons ?_) | (with_reducible refine Rd.cb ?_) | (with_reducible refine Rd.asg ?_) | (with_reducible refine Rd.name ?_) | (with_reducible refine Rd.sub ?_) | (with_reducible refine Rd.rev ?_) | (with_reducible refine Rd.drop ?_) | (with_reducible refine Rd.bm ?_) | (with_reducible refine Rd.par ?_) | (with_reducible refine Rd.p2 ?_) | (with_reducible refine Rd.sl ?_) | (with_reducible refine Rd.noPart ?_) | (with_reducible refine Rd.part ?_) | (with_reducible refine Rd.int_ ?_) | (with_reducible refine Rd.seq ?_)
  | (with_reducible refine Rd.ret ?_) | (with_reducible refine Rd.retN ?_) | (with_reducible refine Rd.nxt ?_) | (with_reducible refine Rd.tst ?_) | (with_reducible refine Rd.tb_ ?_) | (with_reducible refine Rd.tnot ?_)
  | (with_reducible refine Rd.tor ?_) | (with_reducible refine Rd.tand ?_) | (with_reducible refine Rd.ifs ?_) | (with_reducible refine Rd.ife ?_) | (with_reducible refine Rd.lst ?_) | (with_reducible refine Rd.tup ?_)
  | (with_reducible refine Rd.int1 ?_) | (with_reducible refine Rd.bl ?_) | (with_reducible refine Rd.call ?_)
  | (with_reducible refine Rd.mx ?_) | (with_reducible refine Rd.bits ?_) | (with_reducible refine Rd.forR ?_) | (with_reducible refine Rd.forL ?_) | (with_reducible refine Rd.lcR ?_) | (with_reducible refine Rd.lcL ?_) | (with_reducible refine Rd.lcT ?_) | (with_reducible refine Rd.chain ?_) | (with_reducible refine Rd.notv ?_) | (with_reducible refine Rd.forS ?_) | (with_reducible refine Rd.lcS ?_) | (with_reducible refine Rd.str_ ?_) | (with_reducible refine Rd.forE ?_) | (with_reducible refine Rd.lcI ?_) | (with_reducible refine Rd.tgt ?_) | (with_reducible refine Rd.gcons ?_) | (with_reducible refine Rd.gnil ?_) | (with_reducible refine Rd.fld ?_) | (with_reducible refine Rd.sfld ?_) | (with_reducible refine Rd.meth ?_) | (with_reducible refine Rd.forT ?_)
  | ((with_reducible refine' Rd.ixLT ?rh ?ra ?_); (case rh => walk_at "rdh"); (case ra => rfl))
  | ((with_reducible refine' Rd.setL ?rh ?ra ?_); (case rh => walk_at "rdh"); (case ra => rfl))
  | ((with_reducible refine Rd.ic ?rc ?_); (case rc => walk_at "rdc"))))
local macro_rules | `(tactic| walk_at "rd") => `(tactic| (repeat (walk_at "rd1")))


/-! ### data held against each other -/
section
variable {K : PySem.W.Frag} {H : Hp}
mutual
theorem dp_of : ∀ (d : PyData) (v : V), Dq K H v d → d.canLay0 = true → Dp K H v d
  | .none, _, h, _ => by cases h; exact .non
  | .bool b, _, h, _ => by cases h; exact .bl b
  | .int i, _, h, _ => by cases h; exact .int i
  | .str x, _, h, _ => by cases h; exact .str x
  | .list ds, _, h, c => by
    cases h with
    | lst hs ha => exact .lst hs (dp_all ds _ ha c)
  | .tuple ds, _, h, c => by
    cases h with
    | tup hs ha => exact .tup hs (dp_all ds _ ha c)
  | .dict _, _, _, c => nomatch c
theorem dp_all : ∀ (ds : List PyData) (vs : List V), DqAll K H vs ds → PyData.canLayAll0 ds = true → DpAll K H vs ds
  | [], _, h, _ => by cases h; exact .nil
  | d :: ds, _, h, c => by
    have c2 : d.canLay0 = true ∧ PyData.canLayAll0 ds = true := Bool.and_eq_true_iff.mp c
    cases h with
    | cons h1 h2 => exact .cons (dp_of d _ h1 c2.1) (dp_all ds _ h2 c2.2)
end
end
theorem name_str {x : Str} (h : NameOk x) : PyData.strOk x = true := by
  refine Array.all_eq_true_iff_forall_mem.mpr fun c hc => decide_eq_true ?_
  have m := h.2.2 c (Array.mem_toList_iff.mpr hc)
  have : ∀ c ∈ letters.cps.toList, c < 0x110000 := by decide
  exact this c m
mutual
theorem Stp.can {rs ns : List Str} (hr : ∀ x, x ∈ rs → PyData.strOk x = true) (hn : ∀ x, x ∈ ns → PyData.strOk x = true) : ∀ {m : Bool} {s : Stp}, s.ok rs ns m → s.d.canLay0 = true
  | m, .call n, k => by
    rw [Stp.ok] at k
    rw [Stp.d]
    show (PyData.strOk "call" && (PyData.strOk n && true)) = true
    rw [hn n k]; decide +kernel
  | m, .check n, k => by
    rw [Stp.ok] at k
    rw [Stp.d]
    show (PyData.strOk "check" && (PyData.strOk n && true)) = true
    rw [hr n k]; decide +kernel
  | m, .tail n, k => by
    rw [Stp.ok] at k
    rw [Stp.d]
    show (PyData.strOk "tail" && (PyData.strOk n && true)) = true
    rw [hn n k.1]; decide +kernel
  | m, .back, k => by
    rw [Stp.d]
    decide +kernel
  | m, .either a b, k => by
    rw [Stp.ok] at k
    rw [Stp.d]
    show (PyData.strOk "either" && (PyData.canLayAll0 a.ds && (PyData.canLayAll0 b.ds && true))) = true
    rw [Bdy.can hr hn k.1, Bdy.can hr hn k.2]; decide +kernel
  | m, .loop a, k => by
    rw [Stp.ok] at k
    rw [Stp.d]
    show (PyData.strOk "loop" && (PyData.canLayAll0 a.ds && true)) = true
    rw [Bdy.can hr hn k]; decide +kernel
  | m, .block q a, k => by
    rw [Stp.ok] at k
    rw [Stp.d]
    show (PyData.strOk "block" && (true && (PyData.canLayAll0 a.ds && true))) = true
    rw [Bdy.can hr hn k]; decide +kernel
theorem Bdy.can {rs ns : List Str} (hr : ∀ x, x ∈ rs → PyData.strOk x = true) (hn : ∀ x, x ∈ ns → PyData.strOk x = true) : ∀ {m : Bool} {b : Bdy}, b.ok rs ns m → PyData.canLayAll0 b.ds = true
  | m, .nil, k => by rw [Bdy.ds]; rfl
  | m, .cons s b, k => by
    rw [Bdy.ok] at k
    rw [Bdy.ds]
    show (s.d.canLay0 && PyData.canLayAll0 b.ds) = true
    rw [Stp.can hr hn k.1, Bdy.can hr hn k.2]; rfl
end
mutual
theorem Stp.deep : ∀ s : Stp, s.d.depth ≤ 2 * s.dp
  | .call n => by rw [Stp.d, Stp.dp]; exact Nat.le_of_ble_eq_true rfl
  | .check n => by rw [Stp.d, Stp.dp]; exact Nat.le_of_ble_eq_true rfl
  | .tail n => by rw [Stp.d, Stp.dp]; exact Nat.le_of_ble_eq_true rfl
  | .back => by rw [Stp.d, Stp.dp]; exact Nat.le_of_ble_eq_true rfl
  | .either a b => by
    rw [Stp.d, Stp.dp]
    show max 0 (max (PyData.depthAll a.ds + 1) (max (PyData.depthAll b.ds + 1) 0)) + 1 ≤ _
    have := Bdy.deep a
    have := Bdy.deep b
    omega
  | .loop a => by
    rw [Stp.d, Stp.dp]
    show max 0 (max (PyData.depthAll a.ds + 1) 0) + 1 ≤ _
    have := Bdy.deep a
    omega
  | .block m a => by
    rw [Stp.d, Stp.dp]
    show max 0 (max 0 (max (PyData.depthAll a.ds + 1) 0)) + 1 ≤ _
    have := Bdy.deep a
    omega
theorem Bdy.deep : ∀ b : Bdy, PyData.depthAll b.ds ≤ 2 * b.dp
  | .nil => by rw [Bdy.ds, Bdy.dp]; exact Nat.le_of_ble_eq_true rfl
  | .cons s b => by
    rw [Bdy.ds, Bdy.dp]
    show max s.d.depth (PyData.depthAll b.ds) ≤ _
    have := Stp.deep s
    have := Bdy.deep b
    omega
end
theorem can_strs : ∀ {xs : List Str}, (∀ x, x ∈ xs → PyData.strOk x = true) → PyData.canLayAll0 (xs.map PyData.str) = true
  | [], _ => rfl
  | x :: xs, h => by
    show (PyData.strOk x && PyData.canLayAll0 (xs.map PyData.str)) = true
    rw [h x List.mem_cons_self, can_strs fun y hy => h y (List.mem_cons_of_mem _ hy)]; rfl
theorem deep_strs : ∀ xs : List Str, PyData.depthAll (xs.map PyData.str) = 0
  | [] => rfl
  | x :: xs => by
    show max 0 (PyData.depthAll (xs.map PyData.str)) = 0
    rw [deep_strs xs]; rfl
theorem can_map {α : Type} {f : α → PyData} : ∀ {xs : List α}, (∀ x, x ∈ xs → (f x).canLay0 = true) → PyData.canLayAll0 (xs.map f) = true
  | [], _ => rfl
  | x :: xs, h => by
    show ((f x).canLay0 && PyData.canLayAll0 (xs.map f)) = true
    rw [h x List.mem_cons_self, can_map fun y hy => h y (List.mem_cons_of_mem _ hy)]; rfl
theorem deep_map {α : Type} {f : α → PyData} {k : Nat} : ∀ {xs : List α}, (∀ x, x ∈ xs → (f x).depth ≤ k) → PyData.depthAll (xs.map f) ≤ k
  | [], _ => Nat.zero_le k
  | x :: xs, h => by
    show max (f x).depth (PyData.depthAll (xs.map f)) ≤ k
    have h1 := h x List.mem_cons_self
    have h2 := deep_map (k := k) (xs := xs) fun y hy => h y (List.mem_cons_of_mem _ hy)
    omega
theorem shaped_of {d : PyData} (h1 : d.canLay0 = true) (h2 : d.depth ≤ 64) : SeqAt.shaped d = true := by
  show (d.canLay0 && decide (d.depth ≤ 64)) = true
  rw [h1, decide_eq_true h2]; rfl
section
variable {q : Parts} (ft : Fits q)
include ft
theorem can_rs : PyData.canLayAll0 (q.rs.map PyData.str) = true := can_strs fun x h => name_str (ft.rn x h)
theorem shaped_rs : SeqAt.shaped (.tuple (q.rs.map PyData.str)) = true := shaped_of (can_rs ft) (by show PyData.depthAll _ + 1 ≤ 64; rw [deep_strs]; decide)
theorem shaped_os : SeqAt.shaped (ownD q.os) = true := by
  refine shaped_of (can_map fun o h => ?_) ?_
  · obtain ⟨a, b, c, e⟩ := ft.oo o h
    show (PyData.strOk o.1 && (PyData.canLayAll0 (o.2.map PyData.str) && true)) = true
    rw [name_str a, can_strs fun x hx => name_str (ft.rn x (c x hx))]; rfl
  · show PyData.depthAll (q.os.map od) + 1 ≤ 64
    have := deep_map (f := od) (k := 3) (xs := q.os) fun o h => by
      show max 0 (max (PyData.depthAll (o.2.map PyData.str) + 1) 0) + 1 ≤ 3
      rw [deep_strs]; decide
    omega
theorem shaped_fs : SeqAt.shaped (funD q.fs) = true := by
  have hn : ∀ x, x ∈ q.fs.map (·.1) → PyData.strOk x = true := fun x h => by
    obtain ⟨f, hf, rfl⟩ := List.mem_map.mp h
    exact name_str (ft.ff f hf).1
  have ho : ∀ x, x ∈ q.os.map (·.1) → PyData.strOk x = true := fun x h => by
    obtain ⟨o, hf, rfl⟩ := List.mem_map.mp h
    exact name_str (ft.oo o hf).1
  refine shaped_of (can_map fun f h => ?_) ?_
  · obtain ⟨a, b, c, e⟩ := ft.ff f h
    show (PyData.strOk f.1 && (PyData.strOk f.2.1 && (PyData.canLayAll0 f.2.2.ds && true))) = true
    rw [name_str a, ho _ b, Bdy.can (fun x hx => name_str (ft.rn x hx)) hn c]; rfl
  · show PyData.depthAll (q.fs.map fd3) + 1 ≤ 64
    have := deep_map (f := fd3) (k := 20) (xs := q.fs) fun f h => by
      obtain ⟨a, b, c, e, _⟩ := ft.ff f h
      show max 0 (max 0 (max (PyData.depthAll f.2.2.ds + 1) 0)) + 1 ≤ 20
      have := Bdy.deep f.2.2
      omega
    omega
end
/-- the parts are alike -/
def eqP (p q : Parts) : Bool := PyData.eqv (.tuple (p.rs.map .str)) (.tuple (q.rs.map .str)) && (PyData.eqv (ownD p.os) (ownD q.os) && PyData.eqv (funD p.fs) (funD q.fs))
theorem eqP_refl {q : Parts} (ft : Fits q) : eqP q q = true := by
  unfold eqP
  rw [SeqAt.eqv_refl _ (SeqAt.canLay_of_shaped (shaped_rs ft)), SeqAt.eqv_refl _ (SeqAt.canLay_of_shaped (shaped_os ft)), SeqAt.eqv_refl _ (SeqAt.canLay_of_shaped (shaped_fs ft))]
  rfl

end Bs
set_option Elab.async false
set_option linter.all false
set_option maxRecDepth 100000
set_option maxHeartbeats 200000
/-! the program's checks: steps -/
namespace Bs
open PySem PySem.Spec PyProof.Rows L2 Gd Er
local macro_rules | `(tactic| walk_at "rdc") => `(tactic| (first
  | assumption | exact Or.inl ⟨by omega, by omega⟩ | exact Or.inr ⟨by omega, by omega⟩ | exact Or.inl ⟨by decide, by decide⟩ | exact Or.inr ⟨by decide, by decide⟩
  | (show (0 : Int) < _; omega) | (show (0 : Int) < _; decide) | decide | omega | exact ⟨by decide, by decide, by decide⟩ | exact ⟨by decide, by decide +kernel⟩ | decide +kernel))
local macro_rules | `(tactic| walk_at "rdh") => `(tactic| (first | assumption | exact upd_same))
local macro_rules | `(tactic| walk_at "rd1") => `(tactic| (first
  | (with_reducible refine Rd.var rfl ?_) | (with_reducible refine Rd.con ?_) | (with_reducible refine Rd.op ?_) | (with_reducible refine Rd.un ?_) | (with_reducible refine Rd.i0 ?_) | (with_reducible refine Rd.iu ?_)
  | (with_reducible refine Rd.nil ?_) | (with_reducible refine Rd.cons ?_) | (with_reducible refine Rd.cb ?_) | (with_reducible refine Rd.asg ?_) | (with_reducible refine Rd.name ?_) | (with_reducible refine Rd.sub ?_) | (with_reducible refine Rd.rev ?_) | (with_reducible refine Rd.drop ?_) | (with_reducible refine Rd.bm ?_) | (with_reducible refine Rd.par ?_) | (with_reducible refine Rd.p2 ?_) | (with_reducible refine Rd.sl ?_) | (with_reducible refine Rd.noPart ?_) | (with_reducible refine Rd.part ?_) | (with_reducible refine Rd.int_ ?_) | (with_reducible refine Rd.seq ?_)
  | (with_reducible refine Rd.ret ?_) | (with_reducible refine Rd.retN ?_) | (with_reducible refine Rd.nxt ?_) | (with_reducible refine Rd.tst ?_) | (with_reducible refine Rd.tb_ ?_) | (with_reducible refine Rd.tnot ?_)
  | (with_reducible refine Rd.tor ?_) | (with_reducible refine Rd.tand ?_) | (with_reducible refine Rd.ifs ?_) | (with_reducible refine Rd.ife ?_) | (with_reducible refine Rd.lst ?_) | (with_reducible refine Rd.tup ?_)
  | (with_reducible refine Rd.int1 ?_) | (with_reducible refine Rd.bl ?_) | (with_reducible refine Rd.call ?_)
  | (with_reducible refine Rd.mx ?_) | (with_reducible refine Rd.bits ?_) | (with_reducible refine Rd.forR ?_) | (with_reducible refine Rd.forL ?_) | (with_reducible refine Rd.lcR ?_) | (with_reducible refine Rd.lcL ?_) | (with_reducible refine Rd.lcT ?_) | (with_reducible refine Rd.chain ?_) | (with_reducible refine Rd.notv ?_) | (with_reducible refine Rd.forS ?_) | (with_reducible refine Rd.lcS ?_) | (with_reducible refine Rd.str_ ?_) | (with_reducible refine Rd.forE ?_) | (with_reducible refine Rd.lcI ?_) | (with_reducible refine Rd.tgt ?_) | (with_reducible refine Rd.gcons ?_) | (with_reducible refine Rd.gnil ?_) | (with_reducible refine Rd.fld ?_) | (with_reducible refine Rd.sfld ?_) | (with_reducible refine Rd.meth ?_) | (with_reducible refine Rd.forT ?_)
  | ((with_reducible refine' Rd.ixLT ?rh ?ra ?_); (case rh => walk_at "rdh"); (case ra => rfl))
  | ((with_reducible refine' Rd.setL ?rh ?ra ?_); (case rh => walk_at "rdh"); (case ra => rfl))
  | ((with_reducible refine Rd.ic ?rc ?_); (case rc => walk_at "rdc"))))
local macro_rules | `(tactic| walk_at "rd") => `(tactic| (repeat (walk_at "rd1")))


/-! ### Program.__eq__ -/
structure PIsi (K : PySem.W.Frag) (C : Addr) : Prop where
  ha : PySem.W.findIn K (.ref C) "__class__" = some (some (.builtin "object.__class__"))
  hn : PySem.W.specialIn K (.builtin "object.__class__") "__get__" = some (some (.builtin "getset_descriptor.__get__"))
  htk : PySem.W.takesIn K (.builtin "object.__class__") = some true
  hm : PySem.W.mroIn K C (.type "object") = some true
theorem isiOwn {K : PySem.W.Frag} {H : Hp} {Q : VK} {a C D dx : Addr} {fs : List (Str × V)} {b : Bool} (h : H a = some (.ins C dx fs)) (c : Cls K C) (i : PIsi K C) (k : PySem.W.kitOne K (.ref C) (.ref D) = some b) (q : Q (.bl b) H) : rIsi K [.ref a, .ref D] H Q :=
  ⟨_, _, _, _, b, rfl, .own D, .base (.ins h c i.ha i.hn i.htk i.hm), k, q⟩
theorem kit_self {K : PySem.W.Frag} {C : Addr} : PySem.W.kitOne K (.ref C) (.ref C) = some true := by
  unfold PySem.W.kitOne
  rw [if_pos (beq_self_eq_true _)]
abbrev s_Program_eq : Stmt := clsM (top 24) 4
abbrev N_Program_eq : List Str := ["self", "other"]
theorem sc_Program_eq : FnScope N_Program_eq ["self", "other"] (defScope s_Program_eq) := ⟨rfl, rfl, rfl, by decide +kernel, rfl, by decide +kernel, by decide +kernel⟩
def sp_peq (K : PySem.W.Frag) (C : Addr) : Sp := fun vs H Q _ => (∃ (p p2 : Addr) (W : Hp) (q q2 : Parts), vs = [.ref p, .ref p2] ∧ Same W H ∧ PAt K C W p q ∧ PAt K C W p2 q2 ∧ ∀ H', Same H H' → Q (.bl (eqP q q2)) H') ∨
  ∃ (p : Addr) (v : V) (t : Value), vs = [.ref p, v] ∧ TyX K H v t ∧ PySem.W.kitOne K t (.ref C) = some false ∧ Q (.bl false) H
section
variable {P : Program} {w : World} {K : PySem.W.Frag} {mg : Str → Option Value} {base : Heap} {C f f_o f_f : Addr} {fd fd_o fd_f : FuncData}
theorem ok_peq (F : FnM K "__eq__" "Program.__eq__" s_Program_eq f fd) (hC : PCls K C) (hI : PIsi K C) (g_Program : mg "Program" = some (.ref C))
    (m_Program_owners : Meth K C "owners" f_o) (G_Program_owners : FnOk P w K mg base CX0 1 f_o fd_o ["self"] (sp_powners K C)) (b_Program_owners : Binds K fd_o ["self"] [])
    (m_Program_functions : Meth K C "functions" f_f) (G_Program_functions : FnOk P w K mg base CX0 15 f_f fd_f ["self"] (sp_pfunctions K C)) (b_Program_functions : Binds K fd_f ["self"] []) (T : TxtN mg) :
    FnOk P w K mg base CX0 16 f fd ["self", "other"] (sp_peq K C) := by
  have c_Program : Cls K C := hC.c
  refine F.ok sc_Program_eq (fun vs H Q E h => ?_) (fun cdv A outer s H vs Q E hr h => ?_)
  · rcases h with ⟨p, p2, W, q, q2, rfl, _⟩ | ⟨p, v, t, rfl, _⟩ <;> rfl
  refine ⟨_, PSs.nox (pss_cons (ps_if (PW.pt (pw_or (pt_not (pt_val (pe_callB (show CallR _ (.builtin "isinstance") (rIsi K) from call_isi) (by rfl) T.m_isinstance (by decide +kernel) (pa_cons (pv 1) (pa_cons (pe_glob (v := .ref C) rfl g_Program rfl) pa_nil))))) (pw_or (pt_cmpR (show OpR _ (compareOp .NotEq) (rNeD K) from op_neD hr.units) (Rd.pe_fldK (K := K) rfl (pv 0) rfl) (Rd.pe_fldK (K := K) rfl (pv 1) rfl) (nomark _)) (pw_or1 (pt_cmpR (show OpR _ (compareOp .NotEq) (rNeD K) from op_neD hr.units) (pe_meth0 (pv 0) c_Program m_Program_owners G_Program_owners (hr.mono (by omega)) b_Program_owners .nil pass0) (pe_meth0 (pv 1) c_Program m_Program_owners G_Program_owners (hr.mono (by omega)) b_Program_owners .nil pass0) (nomark _)))))) (pss_one (ps_ret pe_bl)) pss_nil)
    (pss_one (ps_ret (pe_cmpR (show OpR _ (compareOp .Eq) (rEqD K) from op_eqD hr.units) (pe_meth0 (pv 0) c_Program m_Program_functions G_Program_functions (hr.mono (by omega)) b_Program_functions .nil pass0) (pe_meth0 (pv 1) c_Program m_Program_functions G_Program_functions (hr.mono (by omega)) b_Program_functions .nil pass0) (nomark _))))), ?_⟩
  rcases h with ⟨p, p2, W, q, q2, rfl, sW, h1, h2, hQ⟩ | ⟨p, v, t, rfl, ty, k, hQ⟩
  · walk_at "rd"
    obtain ⟨W0, dx, L, D, B, kv1, kv2, s0, a1, a2, a3, a4, a5, a6, a7, a8, a9, ft⟩ := id h1
    obtain ⟨W0', dx', L', D', B', kv1', kv2', s0', b1, b2, b3, b4, b5, b6, b7, b8, b9, ft'⟩ := id h2
    refine isiOwn (sW _ _ b4) hC.c hI kit_self ?_
    walk_at "rd"
    refine Rd.brF rfl ?_
    walk_at "rd"
    refine Rd.fldAt (sW _ _ a4) hC.c hC.n1 rfl ?_
    walk_at "rd"
    refine Rd.fldAt (sW _ _ b4) hC.c hC.n1 rfl ?_
    have eL : Dq K H (.ref L) (.tuple (q.rs.map .str)) := .tup (.inl (.inl (sW _ _ (s0 _ _ a5)))) (dqAll_strs q.rs)
    have eL' : Dq K H (.ref L') (.tuple (q2.rs.map .str)) := .tup (.inl (.inl (sW _ _ (s0' _ _ b5)))) (dqAll_strs q2.rs)
    refine ⟨_, _, dp_of _ _ eL (can_rs ft), dp_of _ _ eL' (can_rs ft'), shaped_rs ft, shaped_rs ft', ?_⟩
    refine Rd.bl (Rd.br (fun c1 => ?_) fun c1 => ?_)
    · have e1 : PyData.eqv (.tuple (q.rs.map .str)) (.tuple (q2.rs.map .str)) = false := by simpa using c1
      walk_at "rd"
      refine Rd.brT rfl ?_
      walk_at "rd"
      have z := hQ H (Same.refl H)
      unfold eqP at z
      rw [e1] at z
      exact z
    have e1 : PyData.eqv (.tuple (q.rs.map .str)) (.tuple (q2.rs.map .str)) = true := by simpa using c1
    walk_at "rd"
    refine Rd.methAt (sW _ _ a4) rfl ?_
    walk_at "rd"
    refine ⟨p, W, q, rfl, hC, sW, h1, fun l1 W1 H1 n1 s1 gr1 sW1 d1 => ?_⟩
    walk_at "rd"
    refine Rd.methAt (s1 _ _ (sW _ _ b4)) rfl ?_
    walk_at "rd"
    refine ⟨p2, W1, q2, rfl, hC, sW1, h2.same gr1.s, fun l2 W2 H2 n2 s2 gr2 sW2 d2 => ?_⟩
    refine ⟨_, _, dp_of _ _ (Dq.same (sW1.trans s2) _ _ d1) (SeqAt.canLay_of_shaped (shaped_os ft)), dp_of _ _ (Dq.same sW2 _ _ d2) (SeqAt.canLay_of_shaped (shaped_os ft')), shaped_os ft, shaped_os ft', ?_⟩
    refine Rd.bl (Rd.br (fun c2 => ?_) fun c2 => ?_)
    · have e2 : PyData.eqv (ownD q.os) (ownD q2.os) = false := by simpa using c2
      walk_at "rd"
      have z := hQ H2 (s1.trans s2)
      unfold eqP at z
      rw [e1, e2] at z
      exact z
    have e2 : PyData.eqv (ownD q.os) (ownD q2.os) = true := by simpa using c2
    walk_at "rd"
    refine Rd.methAt (s2 _ _ (s1 _ _ (sW _ _ a4))) rfl ?_
    walk_at "rd"
    refine ⟨p, W2, q, rfl, hC, sW2, h1.same (gr1.s.trans gr2.s), fun l3 W3 H3 n3 s3 gr3 sW3 d3 => ?_⟩
    walk_at "rd"
    refine Rd.methAt (s3 _ _ (s2 _ _ (s1 _ _ (sW _ _ b4)))) rfl ?_
    walk_at "rd"
    refine ⟨p2, W3, q2, rfl, hC, sW3, h2.same ((gr1.s.trans gr2.s).trans gr3.s), fun l4 W4 H4 n4 s4 gr4 sW4 d4 => ?_⟩
    refine ⟨_, _, dp_of _ _ (Dq.same (sW3.trans s4) _ _ d3) (SeqAt.canLay_of_shaped (shaped_fs ft)), dp_of _ _ (Dq.same sW4 _ _ d4) (SeqAt.canLay_of_shaped (shaped_fs ft')), shaped_fs ft, shaped_fs ft', ?_⟩
    have z := hQ H4 (((s1.trans s2).trans s3).trans s4)
    unfold eqP at z
    rw [e1, e2] at z
    exact z
  · walk_at "rd"
    refine ⟨_, _, _, _, false, rfl, .own C, ty, k, ?_⟩
    walk_at "rd"
    refine Rd.brT rfl ?_
    refine Rd.brT rfl ?_
    walk_at "rd"
    exact hQ
end

end Bs
set_option Elab.async false
set_option linter.all false
set_option maxRecDepth 100000
set_option maxHeartbeats 200000
/-! the program's checks: steps -/
namespace Bs
open PySem PySem.Spec PyProof.Rows L2 Gd Er
local macro_rules | `(tactic| walk_at "rdc") => `(tactic| (first
  | assumption | exact Or.inl ⟨by omega, by omega⟩ | exact Or.inr ⟨by omega, by omega⟩ | exact Or.inl ⟨by decide, by decide⟩ | exact Or.inr ⟨by decide, by decide⟩
  | (show (0 : Int) < _; omega) | (show (0 : Int) < _; decide) | decide | omega | exact ⟨by decide, by decide, by decide⟩ | exact ⟨by decide, by decide +kernel⟩ | decide +kernel))
local macro_rules | `(tactic| walk_at "rdh") => `(tactic| (first | assumption | exact upd_same))
local macro_rules | `(tactic| walk_at "rd1") => `(tactic| (first
  | (with_reducible refine Rd.var rfl ?_) | (with_reducible refine Rd.con ?_) | (with_reducible refine Rd.op ?_) | (with_reducible refine Rd.un ?_) | (with_reducible refine Rd.i0 ?_) | (with_reducible refine Rd.iu ?_)
  | (with_reducible refine Rd.nil ?_) | (with_reducible refine Rd.cons ?_) | (with_reducible refine Rd.cb ?_) | (with_reducible refine Rd.asg ?_) | (with_reducible refine Rd.name ?_) | (with_reducible refine Rd.sub ?_) | (with_reducible refine Rd.rev ?_) | (with_reducible refine Rd.drop ?_) | (with_reducible refine Rd.bm ?_) | (with_reducible refine Rd.par ?_) | (with_reducible refine Rd.p2 ?_) | (with_reducible refine Rd.sl ?_) | (with_reducible refine Rd.noPart ?_) | (with_reducible refine Rd.part ?_) | (with_reducible refine Rd.int_ ?_) | (with_reducible refine Rd.seq ?_)
  | (with_reducible refine Rd.ret ?_) | (with_reducible refine Rd.retN ?_) | (with_reducible refine Rd.nxt ?_) | (with_reducible refine Rd.tst ?_) | (with_reducible refine Rd.tb_ ?_) | (with_reducible refine Rd.tnot ?_)
  | (with_reducible refine Rd.tor ?_) | (with_reducible refine Rd.tand ?_) | (with_reducible refine Rd.ifs ?_) | (with_reducible refine Rd.ife ?_) | (with_reducible refine Rd.lst ?_) | (with_reducible refine Rd.tup ?_)
  | (with_reducible refine Rd.int1 ?_) | (with_reducible refine Rd.bl ?_) | (with_reducible refine Rd.call ?_)
  | (with_reducible refine Rd.mx ?_) | (with_reducible refine Rd.bits ?_) | (with_reducible refine Rd.forR ?_) | (with_reducible refine Rd.forL ?_) | (with_reducible refine Rd.lcR ?_) | (with_reducible refine Rd.lcL ?_) | (with_reducible refine Rd.lcT ?_) | (with_reducible refine Rd.chain ?_) | (with_reducible refine Rd.notv ?_) | (with_reducible refine Rd.forS ?_) | (with_reducible refine Rd.lcS ?_) | (with_reducible refine Rd.str_ ?_) | (with_reducible refine Rd.forE ?_) | (with_reducible refine Rd.lcI ?_) | (with_reducible refine Rd.tgt ?_) | (with_reducible refine Rd.gcons ?_) | (with_reducible refine Rd.gnil ?_) | (with_reducible refine Rd.fld ?_) | (with_reducible refine Rd.sfld ?_) | (with_reducible refine Rd.meth ?_) | (with_reducible refine Rd.forT ?_)
  | ((with_reducible refine' Rd.ixLT ?rh ?ra ?_); (case rh => walk_at "rdh"); (case ra => rfl))
  | ((with_reducible refine' Rd.setL ?rh ?ra ?_); (case rh => walk_at "rdh"); (case ra => rfl))
  | ((with_reducible refine Rd.ic ?rc ?_); (case rc => walk_at "rdc"))))
local macro_rules | `(tactic| walk_at "rd") => `(tactic| (repeat (walk_at "rd1")))


/-! ### check_program -/
abbrev s_check_program : Stmt := top 25
abbrev N_check_program : List Str := ["value"]
theorem sc_check_program : FnScope N_check_program ["value"] (defScope s_check_program) := ⟨rfl, rfl, rfl, by decide +kernel, rfl, by decide +kernel, by decide +kernel⟩
def sp_chkp (K : PySem.W.Frag) (C : Addr) : Sp := fun vs H Q _ => ∃ (p : Addr) (W : Hp) (q : Parts), vs = [.ref p] ∧ Same W H ∧ PAt K C W p q ∧ Q .non H
section
variable {P : Program} {w : World} {K : PySem.W.Frag} {mg : Str → Option Value} {base : Heap} {C f : Addr} {fd : FuncData}
theorem ok_chkp (F : FnP K "check_program" s_check_program f fd) (hC : PCls K C) (hI : PIsi K C) (g_Program : mg "Program" = some (.ref C)) (T : TxtN mg) :
    FnOk P w K mg base CX0 1 f fd ["value"] (sp_chkp K C) := by
  refine F.ok sc_check_program (fun vs H Q E h => ?_) (fun cdv A outer s H vs Q E hr h => ?_)
  · obtain ⟨p, W, q, rfl, _⟩ := h
    rfl
  obtain ⟨p, W, q, rfl, sW, h1, hQ⟩ := h
  refine ⟨_, PSs.nox (pss_one (ps_if (pt_not (pt_val (pe_callB (show CallR _ (.builtin "isinstance") (rIsi K) from call_isi) (by rfl) T.m_isinstance (by decide +kernel) (pa_cons (pv 0) (pa_cons (pe_glob (v := .ref C) rfl g_Program rfl) pa_nil))))) (pss_one ps_never) pss_nil)), ?_⟩
  walk_at "rd"
  obtain ⟨W0, dx, L, D, B, kv1, kv2, s0, a1, a2, a3, a4, a5, a6, a7, a8, a9, ft⟩ := id h1
  refine isiOwn (sW _ _ a4) hC.c hI kit_self ?_
  walk_at "rd"
  refine Rd.brF rfl ?_
  walk_at "rd"
  exact hQ
end

end Bs
set_option Elab.async false
set_option linter.all false
set_option maxRecDepth 100000
set_option maxHeartbeats 200000
/-! the program's checks: steps -/
namespace Bs
open PySem PySem.Spec PyProof.Rows L2 Gd Er
local macro_rules | `(tactic| walk_at "rdc") => `(tactic| (first
  | assumption | exact Or.inl ⟨by omega, by omega⟩ | exact Or.inr ⟨by omega, by omega⟩ | exact Or.inl ⟨by decide, by decide⟩ | exact Or.inr ⟨by decide, by decide⟩
  | (show (0 : Int) < _; omega) | (show (0 : Int) < _; decide) | decide | omega | exact ⟨by decide, by decide, by decide⟩ | exact ⟨by decide, by decide +kernel⟩ | decide +kernel))
local macro_rules | `(tactic| walk_at "rdh") => `(tactic| (first | assumption | exact upd_same))
local macro_rules | `(tactic| walk_at "rd1") => `(tactic| (first
  | (with_reducible refine Rd.var rfl ?_) | (with_reducible refine Rd.con ?_) | (with_reducible refine Rd.op ?_) | (with_reducible refine Rd.un ?_) | (with_reducible refine Rd.i0 ?_) | (with_reducible refine Rd.iu ?_)
  | (with_reducible refine Rd.nil ?_) | (with_reducible refine Rd.cons ?_) | (with_reducible refine Rd.cb ?_) | (with_reducible refine Rd.asg ?_) | (with_reducible refine Rd.name ?_) | (with_reducible refine Rd.sub ?_) | (with_reducible refine Rd.rev ?_) | (with_reducible refine Rd.drop ?_) | (with_reducible refine Rd.bm ?_) | (with_reducible refine Rd.par ?_) | (with_reducible refine Rd.p2 ?_) | (with_reducible refine Rd.sl ?_) | (with_reducible refine Rd.noPart ?_) | (with_reducible refine Rd.part ?_) | (with_reducible refine Rd.int_ ?_) | (with_reducible refine Rd.seq ?_)
  | (with_reducible refine Rd.ret ?_) | (with_reducible refine Rd.retN ?_) | (with_reducible refine Rd.nxt ?_) | (with_reducible refine Rd.tst ?_) | (with_reducible refine Rd.tb_ ?_) | (with_reducible refine Rd.tnot ?_)
  | (with_reducible refine Rd.tor ?_) | (with_reducible refine Rd.tand ?_) | (with_reducible refine Rd.ifs ?_) | (with_reducible refine Rd.ife ?_) | (with_reducible refine Rd.lst ?_) | (with_reducible refine Rd.tup ?_)
  | (with_reducible refine Rd.int1 ?_) | (with_reducible refine Rd.bl ?_) | (with_reducible refine Rd.call ?_)
  | (with_reducible refine Rd.mx ?_) | (with_reducible refine Rd.bits ?_) | (with_reducible refine Rd.forR ?_) | (with_reducible refine Rd.forL ?_) | (with_reducible refine Rd.lcR ?_) | (with_reducible refine Rd.lcL ?_) | (with_reducible refine Rd.lcT ?_) | (with_reducible refine Rd.chain ?_) | (with_reducible refine Rd.notv ?_) | (with_reducible refine Rd.forS ?_) | (with_reducible refine Rd.lcS ?_) | (with_reducible refine Rd.str_ ?_) | (with_reducible refine Rd.forE ?_) | (with_reducible refine Rd.lcI ?_) | (with_reducible refine Rd.tgt ?_) | (with_reducible refine Rd.gcons ?_) | (with_reducible refine Rd.gnil ?_) | (with_reducible refine Rd.fld ?_) | (with_reducible refine Rd.sfld ?_) | (with_reducible refine Rd.meth ?_) | (with_reducible refine Rd.forT ?_)
  | ((with_reducible refine' Rd.ixLT ?rh ?ra ?_); (case rh => walk_at "rdh"); (case ra => rfl))
  | ((with_reducible refine' Rd.setL ?rh ?ra ?_); (case rh => walk_at "rdh"); (case ra => rfl))
  | ((with_reducible refine Rd.ic ?rc ?_); (case rc => walk_at "rdc"))))
local macro_rules | `(tactic| walk_at "rd") => `(tactic| (repeat (walk_at "rd1")))


/-! ### Live.__init__ -/
structure LCls (K : PySem.W.Frag) (C : Addr) : Prop where
  c : Cls K C
  n1 : NoAttr K C "now"
  n2 : NoAttr K C "past"
abbrev s_Live_init : Stmt := clsM (top 27) 0
abbrev N_Live_init : List Str := ["self", "program"]
theorem sc_Live_init : FnScope N_Live_init ["self", "program"] (defScope s_Live_init) := ⟨rfl, rfl, rfl, by decide +kernel, rfl, by decide +kernel, by decide +kernel⟩
def sp_linit (K : PySem.W.Frag) (C L : Addr) : Sp := fun vs H Q _ => ∃ (l dx p : Addr) (W : Hp) (q : Parts), vs = [.ref l, .ref p] ∧ H l = some (.ins L dx []) ∧ Same W H ∧ PAt K C W p q ∧
  ∀ pa H', But l H H' → H pa = none → H' l = some (.ins L dx [("now", .ref p), ("past", .ref pa)]) → H' pa = some (.lst []) → Q .non H'
section
variable {P : Program} {w : World} {K : PySem.W.Frag} {mg : Str → Option Value} {base : Heap} {C L f f_c : Addr} {fd fd_c : FuncData}
theorem ok_linit (F : FnM K "__init__" "Live.__init__" s_Live_init f fd) (hL : LCls K L) (G_check_program : FnOk P w K mg base CX0 1 f_c fd_c ["value"] (sp_chkp K C)) (g_check_program : mg "check_program" = some (.ref f_c)) (k_check_program : PySem.W.keepIn K (.ref f_c) = true) (b_check_program : Binds K fd_c ["value"] []) (T : TxtN mg) :
    FnOk P w K mg base CX0 2 f fd ["self", "program"] (sp_linit K C L) := by
  refine F.ok sc_Live_init (fun vs H Q E h => ?_) (fun cdv A outer s H vs Q E hr h => ?_)
  · obtain ⟨l, dx, p, W, q, rfl, _⟩ := h
    rfl
  obtain ⟨l, dx, p, W, q, rfl, hl, sW, h1, hQ⟩ := h
  refine ⟨_, PSs.nox (pss_cons (ps_expr (pe_call G_check_program (hr.mono (by omega)) rfl g_check_program k_check_program b_check_program .nil pass0 (pa_cons (pv 1) pa_nil)))
    (pss_cons (Rd.ps_fldK (K := K) rfl (pv 0) (pv 1) rfl)
    (pss_one (Rd.ps_fldK (K := K) rfl (pv 0) (pe_lst pa_nil) rfl)))), ?_⟩
  walk_at "rd"
  refine ⟨p, W, q, rfl, sW, h1, ?_⟩
  walk_at "rd"
  refine Rd.fldPut hl hL.c hL.n1 ?_
  walk_at "rd"
  refine ⟨Nat.zero_le _, fun pa hpa => ?_⟩
  have np : pa ≠ l := ne_of_none upd_same hpa |>.symm
  walk_at "rd"
  refine Rd.fldPut ((upd_ne np.symm).trans upd_same) hL.c hL.n2 ?_
  have h0 : H pa = none := (upd_ne np).symm.trans hpa
  refine hQ pa _ (fun b o n e => ?_) h0 upd_same ((upd_ne np).trans upd_same)
  exact (upd_ne n).trans ((upd_ne (ne_of_none e h0)).trans ((upd_ne n).trans e))
end

end Bs
set_option Elab.async false
set_option linter.all false
set_option maxRecDepth 100000
set_option maxHeartbeats 200000
/-! the program's checks: steps -/
namespace Bs
open PySem PySem.Spec PyProof.Rows L2 Gd Er
local macro_rules | `(tactic| walk_at "rdc") => `(tactic| (first
  | assumption | exact Or.inl ⟨by omega, by omega⟩ | exact Or.inr ⟨by omega, by omega⟩ | exact Or.inl ⟨by decide, by decide⟩ | exact Or.inr ⟨by decide, by decide⟩
  | (show (0 : Int) < _; omega) | (show (0 : Int) < _; decide) | decide | omega | exact ⟨by decide, by decide, by decide⟩ | exact ⟨by decide, by decide +kernel⟩ | decide +kernel))
local macro_rules | `(tactic| walk_at "rdh") => `(tactic| (first | assumption | exact upd_same))
local macro_rules | `(tactic| walk_at "rd1") => `(tactic| (first
  | (with_reducible refine Rd.var rfl ?_) | (with_reducible refine Rd.con ?_) | (with_reducible refine Rd.op ?_) | (with_reducible refine Rd.un ?_) | (with_reducible refine Rd.i0 ?_) | (with_reducible refine Rd.iu ?_)
  | (with_reducible refine Rd.nil ?_) | (with_reducible refine Rd.cons ?_) | (with_reducible refine Rd.cb ?_) | (with_reducible refine Rd.asg ?_) | (with_reducible refine Rd.name ?_) | (with_reducible refine Rd.sub ?_) | (with_reducible refine Rd.rev ?_) | (with_reducible refine Rd.drop ?_) | (with_reducible refine Rd.bm ?_) | (with_reducible refine Rd.par ?_) | (with_reducible refine Rd.p2 ?_) | (with_reducible refine Rd.sl ?_) | (with_reducible refine Rd.noPart ?_) | (with_reducible refine Rd.part ?_) | (with_reducible refine Rd.int_ ?_) | (with_reducible refine Rd.seq ?_)
  | (with_reducible refine Rd.ret ?_) | (with_reducible refine Rd.retN ?_) | (with_reducible refine Rd.nxt ?_) | (with_reducible refine Rd.tst ?_) | (with_reducible refine Rd.tb_ ?_) | (with_reducible refine Rd.tnot ?_)
  | (with_reducible refine Rd.tor ?_) | (with_reducible refine Rd.tand ?_) | (with_reducible refine Rd.ifs ?_) | (with_reducible refine Rd.ife ?_) | (with_reducible refine Rd.lst ?_) | (with_reducible refine Rd.tup ?_)
  | (with_reducible refine Rd.int1 ?_) | (with_reducible refine Rd.bl ?_) | (with_reducible refine Rd.call ?_)
  | (with_reducible refine Rd.mx ?_) | (with_reducible refine Rd.bits ?_) | (with_reducible refine Rd.forR ?_) | (with_reducible refine Rd.forL ?_) | (with_reducible refine Rd.lcR ?_) | (with_reducible refine Rd.lcL ?_) | (with_reducible refine Rd.lcT ?_) | (with_reducible refine Rd.chain ?_) | (with_reducible refine Rd.notv ?_) | (with_reducible refine Rd.forS ?_) | (with_reducible refine Rd.lcS ?_) | (with_reducible refine Rd.str_ ?_) | (with_reducible refine Rd.forE ?_) | (with_reducible refine Rd.lcI ?_) | (with_reducible refine Rd.tgt ?_) | (with_reducible refine Rd.gcons ?_) | (with_reducible refine Rd.gnil ?_) | (with_reducible refine Rd.fld ?_) | (with_reducible refine Rd.sfld ?_) | (with_reducible refine Rd.meth ?_) | (with_reducible refine Rd.forT ?_)
  | ((with_reducible refine' Rd.ixLT ?rh ?ra ?_); (case rh => walk_at "rdh"); (case ra => rfl))
  | ((with_reducible refine' Rd.setL ?rh ?ra ?_); (case rh => walk_at "rdh"); (case ra => rfl))
  | ((with_reducible refine Rd.ic ?rc ?_); (case rc => walk_at "rdc"))))
local macro_rules | `(tactic| walk_at "rd") => `(tactic| (repeat (walk_at "rd1")))


/-! ### live programs: what stands, what is shown -/
/-- the deeds, with the programs ahead of them -/
inductive PastE (K : PySem.W.Frag) (C : Addr) (W : Hp) : List V → List (PyData × Parts) → Prop
  | nil : PastE K C W [] []
  | cons {t p : Addr} {x : V} {d : PyData} {q : Parts} {xs : List V} {log : List (PyData × Parts)} : W t = some (.tup [x, .ref p]) → Dq K W x d → PAt K C W p q → PastE K C W xs log → PastE K C W (.ref t :: xs) ((d, q) :: log)
theorem PastE.same {K : PySem.W.Frag} {C : Addr} {W W' : Hp} (s : Same W W') : ∀ {xs : List V} {log : List (PyData × Parts)}, PastE K C W xs log → PastE K C W' xs log
  | _, _, .nil => .nil
  | _, _, .cons h d p r => .cons (s _ _ h) (Dq.same s _ _ d) (p.same s) (PastE.same s r)
theorem PastE.snoc {K : PySem.W.Frag} {C : Addr} {W : Hp} {t p : Addr} {x : V} {d : PyData} {q : Parts} (h : W t = some (.tup [x, .ref p])) (hd : Dq K W x d) (hp : PAt K C W p q) : ∀ {xs : List V} {log : List (PyData × Parts)}, PastE K C W xs log → PastE K C W (xs ++ [.ref t]) (log ++ [(d, q)])
  | _, _, .nil => .cons h hd hp .nil
  | _, _, .cons a b c r => .cons a b c (PastE.snoc h hd hp r)
/-- at l stands a live program, its list of deeds at pa; both change, so they are not in W -/
def LvAt (K : PySem.W.Frag) (C L : Addr) (W H : Hp) (l pa : Addr) (q : Parts) (log : List (PyData × Parts)) : Prop := ∃ (dx p : Addr) (xs : List V), H l = some (.ins L dx [("now", .ref p), ("past", .ref pa)]) ∧ H pa = some (.lst xs) ∧ l ≠ pa ∧ W l = none ∧ W pa = none ∧ PAt K C W p q ∧ PastE K C W xs log
theorem LvAt.keep {K : PySem.W.Frag} {C L : Addr} {W W' H H' : Hp} {l pa : Addr} {q : Parts} {log : List (PyData × Parts)} (h : LvAt K C L W H l pa q log) (gr : Grow W W' H) (hl : ∀ o, H l = some o → H' l = some o) (hp : ∀ o, H pa = some o → H' pa = some o) : LvAt K C L W' H' l pa q log := by
  obtain ⟨dx, p, xs, h1, h2, h3, h4, h5, h6, h7⟩ := h
  exact ⟨dx, p, xs, hl _ h1, hp _ h2, h3, gr.n _ _ h1 h4, gr.n _ _ h2 h5, h6.same gr.s, h7.same gr.s⟩
/-- all but what S names stays -/
def ButS (S : Addr → Prop) (H H' : Hp) : Prop := ∀ b o, ¬ S b → H b = some o → H' b = some o
theorem ButS.trans {S : Addr → Prop} {H H1 H2 : Hp} (a : ButS S H H1) (b : ButS S H1 H2) : ButS S H H2 := fun c o n e => b c o n (a c o n e)
theorem ButS.of {S : Addr → Prop} {H H' : Hp} (s : Same H H') : ButS S H H' := fun b o _ e => s b o e
theorem ButS.mono {S T : Addr → Prop} {H H' : Hp} (a : ButS S H H') (i : ∀ b, S b → T b) : ButS T H H' := fun b o n e => a b o (fun z => n (i b z)) e

end Bs
set_option Elab.async false
set_option linter.all false
set_option maxRecDepth 100000
set_option maxHeartbeats 200000
/-! the program's checks: steps -/
namespace Bs
open PySem PySem.Spec PyProof.Rows L2 Gd Er
local macro_rules | `(tactic| walk_at "rdc") => `(tactic| (first
  | assumption | exact Or.inl ⟨by omega, by omega⟩ | exact Or.inr ⟨by omega, by omega⟩ | exact Or.inl ⟨by decide, by decide⟩ | exact Or.inr ⟨by decide, by decide⟩
  | (show (0 : Int) < _; omega) | (show (0 : Int) < _; decide) | decide | omega | exact ⟨by decide, by decide, by decide⟩ | exact ⟨by decide, by decide +kernel⟩ | decide +kernel))
local macro_rules | `(tactic| walk_at "rdh") => `(tactic| (first | assumption | exact upd_same))
local macro_rules | `(tactic| walk_at "rd1") => `(tactic| (first
  | (with_reducible refine Rd.var rfl ?_) | (with_reducible refine Rd.con ?_) | (with_reducible refine Rd.op ?_) | (with_reducible refine Rd.un ?_) | (with_reducible refine Rd.i0 ?_) | (with_reducible refine Rd.iu ?_)
  | (with_reducible refine Rd.nil ?_) | (with_reducible refine Rd.cons ?_) | (with_reducible refine Rd.cb ?_) | (with_reducible refine Rd.asg ?_) | (with_reducible refine Rd.name ?_) | (with_reducible refine Rd.sub ?_) | (with_reducible refine Rd.rev ?_) | (with_reducible refine Rd.drop ?_) | (with_reducible refine Rd.bm ?_) | (with_reducible refine Rd.par ?_) | (with_reducible refine Rd.p2 ?_) | (with_reducible refine Rd.sl ?_) | (with_reducible refine Rd.noPart ?_) | (with_reducible refine Rd.part ?_) | (with_reducible refine Rd.int_ ?_) | (with_reducible refine Rd.seq ?_)
  | (with_reducible refine Rd.ret ?_) | (with_reducible refine Rd.retN ?_) | (with_reducible refine Rd.nxt ?_) | (with_reducible refine Rd.tst ?_) | (with_reducible refine Rd.tb_ ?_) | (with_reducible refine Rd.tnot ?_)
  | (with_reducible refine Rd.tor ?_) | (with_reducible refine Rd.tand ?_) | (with_reducible refine Rd.ifs ?_) | (with_reducible refine Rd.ife ?_) | (with_reducible refine Rd.lst ?_) | (with_reducible refine Rd.tup ?_)
  | (with_reducible refine Rd.int1 ?_) | (with_reducible refine Rd.bl ?_) | (with_reducible refine Rd.call ?_)
  | (with_reducible refine Rd.mx ?_) | (with_reducible refine Rd.bits ?_) | (with_reducible refine Rd.forR ?_) | (with_reducible refine Rd.forL ?_) | (with_reducible refine Rd.lcR ?_) | (with_reducible refine Rd.lcL ?_) | (with_reducible refine Rd.lcT ?_) | (with_reducible refine Rd.chain ?_) | (with_reducible refine Rd.notv ?_) | (with_reducible refine Rd.forS ?_) | (with_reducible refine Rd.lcS ?_) | (with_reducible refine Rd.str_ ?_) | (with_reducible refine Rd.forE ?_) | (with_reducible refine Rd.lcI ?_) | (with_reducible refine Rd.tgt ?_) | (with_reducible refine Rd.gcons ?_) | (with_reducible refine Rd.gnil ?_) | (with_reducible refine Rd.fld ?_) | (with_reducible refine Rd.sfld ?_) | (with_reducible refine Rd.meth ?_) | (with_reducible refine Rd.forT ?_)
  | ((with_reducible refine' Rd.ixLT ?rh ?ra ?_); (case rh => walk_at "rdh"); (case ra => rfl))
  | ((with_reducible refine' Rd.setL ?rh ?ra ?_); (case rh => walk_at "rdh"); (case ra => rfl))
  | ((with_reducible refine Rd.ic ?rc ?_); (case rc => walk_at "rdc"))))
local macro_rules | `(tactic| walk_at "rd") => `(tactic| (repeat (walk_at "rd1")))


/-! ### Live.shown -/
abbrev s_Live_shown : Stmt := clsM (top 27) 6
abbrev N_Live_shown : List Str := ["self"]
theorem sc_Live_shown : FnScope N_Live_shown ["self"] (defScope s_Live_shown) := ⟨rfl, rfl, rfl, by decide +kernel, rfl, by decide +kernel, by decide +kernel⟩
def sp_shown (K : PySem.W.Frag) (C L : Addr) : Sp := fun vs H Q _ => ∃ (l pa : Addr) (W : Hp) (q : Parts) (log : List (PyData × Parts)), vs = [.ref l] ∧ PCls K C ∧ LCls K L ∧ Same W H ∧ LvAt K C L W H l pa q log ∧ GiveP K C W H q Q
section
variable {P : Program} {w : World} {K : PySem.W.Frag} {mg : Str → Option Value} {base : Heap} {C L f f_r f_o f_f f_i : Addr} {fd fd_r fd_o fd_f fd_i : FuncData}
theorem ok_shown (F : FnM K "shown" "Live.shown" s_Live_shown f fd)
    (m_Program_rights : Meth K C "rights" f_r) (G_Program_rights : FnOk P w K mg base CX0 1 f_r fd_r ["self"] (sp_prights K C)) (b_Program_rights : Binds K fd_r ["self"] [])
    (m_Program_owners : Meth K C "owners" f_o) (G_Program_owners : FnOk P w K mg base CX0 1 f_o fd_o ["self"] (sp_powners K C)) (b_Program_owners : Binds K fd_o ["self"] [])
    (m_Program_functions : Meth K C "functions" f_f) (G_Program_functions : FnOk P w K mg base CX0 15 f_f fd_f ["self"] (sp_pfunctions K C)) (b_Program_functions : Binds K fd_f ["self"] [])
    (c_Program : Cls K C) (M_Program : Mk K C f_i) (G_Program : FnOk P w K mg base CX0 16 f_i fd_i ["self", "rights", "owners", "functions"] (sp_pinit K)) (g_Program : mg "Program" = some (.ref C)) (b_Program : Binds K fd_i ["self", "rights", "owners", "functions"] []) (T : TxtN mg) :
    FnOk P w K mg base CX0 18 f fd ["self"] (sp_shown K C L) := by
  refine F.ok sc_Live_shown (fun vs H Q E h => ?_) (fun cdv A outer s H vs Q E hr h => ?_)
  · obtain ⟨l, pa, W, q, log, rfl, _⟩ := h
    rfl
  obtain ⟨l, pa, W, q, log, rfl, hC, hL, sW, hv, hQ⟩ := h
  refine ⟨_, PSs.nox (pss_one (ps_ret (pe_make M_Program G_Program (hr.mono (by omega)) (by rfl) g_Program b_Program .nil pass0 (pa_cons (pe_meth0 (Rd.pe_fldK (K := K) rfl (pv 0) rfl) c_Program m_Program_rights G_Program_rights (hr.mono (by omega)) b_Program_rights .nil pass0) (pa_cons (pe_meth0 (Rd.pe_fldK (K := K) rfl (pv 0) rfl) c_Program m_Program_owners G_Program_owners (hr.mono (by omega)) b_Program_owners .nil pass0) (pa_cons (pe_meth0 (Rd.pe_fldK (K := K) rfl (pv 0) rfl) c_Program m_Program_functions G_Program_functions (hr.mono (by omega)) b_Program_functions .nil pass0) pa_nil)))))), ?_⟩
  obtain ⟨dx, p, xs, h1, h2, h3, h4, h5, h6, h7⟩ := hv
  walk_at "rd"
  refine make_ ?_
  walk_at "rd"
  refine Rd.fldAt h1 hL.c hL.n1 rfl ?_
  obtain ⟨W0, pdx, PL, PD, PB, kv1, kv2, s0, a1, a2, a3, a4, a5, a6, a7, a8, a9, ft⟩ := id h6
  refine Rd.methAt (sW _ _ a4) rfl ?_
  walk_at "rd"
  refine ⟨p, W, q, rfl, hC, sW, h6, fun R H1 n1 s1 e1 => ?_⟩
  walk_at "rd"
  have WR : W R = none := same_none sW n1
  have g1 : Grow W (upd W R (.lst (q.rs.map V.str))) H := (Grow.refl (W := W) (H := H)).put n1 WR
  have sW1 : Same (upd W R (.lst (q.rs.map V.str))) H1 := same_put (sW.trans s1) e1
  refine Rd.fldAt (s1 _ _ h1) hL.c hL.n1 rfl ?_
  refine Rd.methAt (s1 _ _ (sW _ _ a4)) rfl ?_
  walk_at "rd"
  refine ⟨p, _, q, rfl, hC, sW1, h6.same g1.s, fun O W2 H2 n2 s2 g2 sW2 d2 => ?_⟩
  walk_at "rd"
  refine Rd.fldAt (s2 _ _ (s1 _ _ h1)) hL.c hL.n1 rfl ?_
  refine Rd.methAt (s2 _ _ (s1 _ _ (sW _ _ a4))) rfl ?_
  walk_at "rd"
  refine ⟨p, _, q, rfl, hC, sW2, (h6.same g1.s).same g2.s, fun F0 W3 H3 n3 s3 g3 sW3 d3 => ?_⟩
  have dR : Dq K W3 (.ref R) (rigD q.rs) := .lst (.inl (.inl (g3.s _ _ (g2.s _ _ upd_same)))) (dqAll_strs q.rs)
  have gA : Grow W W3 H := (g1.trans g2 (Same.alive s1)).trans g3 (Same.alive (s1.trans s2))
  refine mkProg hC sW3 dR (Dq.same g3.s _ _ d2) d3 ft (fun p9 W9 H9 s9 g9 sW9 hp9 n9 => ?_)
  exact hQ p9 W9 H9 (((s1.trans s2).trans s3).trans s9) (gA.trans g9 (Same.alive ((s1.trans s2).trans s3))) sW9 hp9 (same_none ((s1.trans s2).trans s3) n9)
end

end Bs
set_option Elab.async false
set_option linter.all false
set_option maxRecDepth 100000
set_option maxHeartbeats 200000
/-! the program's checks: steps -/
namespace Bs
open PySem PySem.Spec PyProof.Rows L2 Gd Er
local macro_rules | `(tactic| walk_at "rdc") => `(tactic| (first
  | assumption | exact Or.inl ⟨by omega, by omega⟩ | exact Or.inr ⟨by omega, by omega⟩ | exact Or.inl ⟨by decide, by decide⟩ | exact Or.inr ⟨by decide, by decide⟩
  | (show (0 : Int) < _; omega) | (show (0 : Int) < _; decide) | decide | omega | exact ⟨by decide, by decide, by decide⟩ | exact ⟨by decide, by decide +kernel⟩ | decide +kernel))
local macro_rules | `(tactic| walk_at "rdh") => `(tactic| (first | assumption | exact upd_same))
local macro_rules | `(tactic| walk_at "rd1") => `(tactic| (first
  | (with_reducible refine Rd.var rfl ?_) | (with_reducible refine Rd.con ?_) | (with_reducible refine Rd.op ?_) | (with_reducible refine Rd.un ?_) | (with_reducible refine Rd.i0 ?_) | (with_reducible refine Rd.iu ?_)
  | (with_reducible refine Rd.nil ?_) | (with_reducible refine Rd.cons ?_) | (with_reducible refine Rd.cb ?_) | (with_reducible refine Rd.asg ?_) | (with_reducible refine Rd.name ?_) | (with_reducible refine Rd.sub ?_) | (with_reducible refine Rd.rev ?_) | (with_reducible refine Rd.drop ?_) | (with_reducible refine Rd.bm ?_) | (with_reducible refine Rd.par ?_) | (with_reducible refine Rd.p2 ?_) | (with_reducible refine Rd.sl ?_) | (with_reducible refine Rd.noPart ?_) | (with_reducible refine Rd.part ?_) | (with_reducible refine Rd.int_ ?_) | (with_reducible refine Rd.seq ?_)
  | (with_reducible refine Rd.ret ?_) | (with_reducible refine Rd.retN ?_) | (with_reducible refine Rd.nxt ?_) | (with_reducible refine Rd.tst ?_) | (with_reducible refine Rd.tb_ ?_) | (with_reducible refine Rd.tnot ?_)
  | (with_reducible refine Rd.tor ?_) | (with_reducible refine Rd.tand ?_) | (with_reducible refine Rd.ifs ?_) | (with_reducible refine Rd.ife ?_) | (with_reducible refine Rd.lst ?_) | (with_reducible refine Rd.tup ?_)
  | (with_reducible refine Rd.int1 ?_) | (with_reducible refine Rd.bl ?_) | (with_reducible refine Rd.call ?_)
  | (with_reducible refine Rd.mx ?_) | (with_reducible refine Rd.bits ?_) | (with_reducible refine Rd.forR ?_) | (with_reducible refine Rd.forL ?_) | (with_reducible refine Rd.lcR ?_) | (with_reducible refine Rd.lcL ?_) | (with_reducible refine Rd.lcT ?_) | (with_reducible refine Rd.chain ?_) | (with_reducible refine Rd.notv ?_) | (with_reducible refine Rd.forS ?_) | (with_reducible refine Rd.lcS ?_) | (with_reducible refine Rd.str_ ?_) | (with_reducible refine Rd.forE ?_) | (with_reducible refine Rd.lcI ?_) | (with_reducible refine Rd.tgt ?_) | (with_reducible refine Rd.gcons ?_) | (with_reducible refine Rd.gnil ?_) | (with_reducible refine Rd.fld ?_) | (with_reducible refine Rd.sfld ?_) | (with_reducible refine Rd.meth ?_) | (with_reducible refine Rd.forT ?_)
  | ((with_reducible refine' Rd.ixLT ?rh ?ra ?_); (case rh => walk_at "rdh"); (case ra => rfl))
  | ((with_reducible refine' Rd.setL ?rh ?ra ?_); (case rh => walk_at "rdh"); (case ra => rfl))
  | ((with_reducible refine Rd.ic ?rc ?_); (case rc => walk_at "rdc"))))
local macro_rules | `(tactic| walk_at "rd") => `(tactic| (repeat (walk_at "rd1")))


/-! ### Live.check_owner -/
theorem dnin {ty td : TE} {σ : L2.St} {H : Hp} {Q : VK} (q : ty σ H fun y H1 => td σ H1 fun x H2 => ∃ a o, x = .ref a ∧ DGet H2 a y o ∧ Q (.bl (!o.isSome)) H2) : tDNotIn ty td σ H Q := q
abbrev s_Live_check_owner : Stmt := clsM (top 27) 1
abbrev N_Live_check_owner : List Str := ["self", "name"]
theorem sc_Live_check_owner : FnScope N_Live_check_owner ["self", "name"] (defScope s_Live_check_owner) := ⟨rfl, rfl, rfl, by decide +kernel, rfl, by decide +kernel, by decide +kernel⟩
def sp_chko (K : PySem.W.Frag) (C L : Addr) : Sp := fun vs H Q _ => ∃ (l pa : Addr) (x : Str) (W : Hp) (q : Parts) (log : List (PyData × Parts)), vs = [.ref l, .str x] ∧ PCls K C ∧ LCls K L ∧ Same W H ∧ LvAt K C L W H l pa q log ∧ x ∈ q.os.map (·.1) ∧ Q .non H
section
variable {P : Program} {w : World} {K : PySem.W.Frag} {mg : Str → Option Value} {base : Heap} {C L f : Addr} {fd : FuncData}
theorem ok_chko (F : FnM K "check_owner" "Live.check_owner" s_Live_check_owner f fd) (T : TxtN mg) :
    FnOk P w K mg base CX0 1 f fd ["self", "name"] (sp_chko K C L) := by
  refine F.ok sc_Live_check_owner (fun vs H Q E h => ?_) (fun cdv A outer s H vs Q E hr h => ?_)
  · obtain ⟨l, pa, x, W, q, log, rfl, _⟩ := h
    rfl
  obtain ⟨l, pa, x, W, q, log, rfl, hC, hL, sW, hv, hm, hQ⟩ := h
  refine ⟨_, PSs.nox (pss_one (ps_if (PW.pt (pw_or (pt_not (pt_val (pe_callB (show CallR _ (.builtin "isinstance") (rIsi K) from call_isi) (by rfl) T.m_isinstance (by decide +kernel) (pa_cons (pv 1) (pa_cons (pe_bltn (v := .ty "str") (by rfl) T.m_str (by decide +kernel) rfl) pa_nil))))) (pw_or1 (pt_cmp (pc_dnotin (Nat.lt_of_le_of_lt (Nat.add_le_add_left (show 1 ≤ 64 by decide) _) hr.units) (pv 1) (Rd.pe_fldK (K := K) rfl (Rd.pe_fldK (K := K) rfl (pv 0) rfl) rfl)))))) (pss_one ps_never) pss_nil)), ?_⟩
  obtain ⟨dx, p, xs, h1, h2, h3, h4, h5, h6, h7⟩ := hv
  walk_at "rd"
  refine isiD (.str x) (show kitB "str" "str" = some true by decide +kernel) ?_
  walk_at "rd"
  refine Rd.brF rfl ?_
  obtain ⟨W0, pdx, PL, PD, PB, kv1, kv2, s0, a1, a2, a3, a4, a5, a6, a7, a8, a9, ft⟩ := id h6
  refine Rd.tb_ (dnin ?_)
  walk_at "rd"
  refine Rd.fldAt h1 hL.c hL.n1 rfl ?_
  refine Rd.fldAt (sW _ _ a4) hC.c hC.n2 rfl ?_
  have some_ : (valV kv1 (.inr x)).isSome = true := by
    have go : ∀ {W0 : Hp} {kvs : List (Key × V)} {os : List (Str × List Str)}, HeldE W0 kvs os → x ∈ os.map (·.1) → (valV kvs (.inr x)).isSome = true := by
      intro W0 kvs os h
      induction h with
      | nil => intro m; cases m
      | @cons n t rs kvs os h r ih =>
        intro m
        by_cases e : n = x
        · subst e
          rw [valV_pos rfl]; rfl
        · rw [valV_neg (fun z => e (by injection z))]
          rw [List.map_cons, List.mem_cons] at m
          exact ih (m.resolve_left (fun z => e z.symm))
    exact go a8 hm
  refine ⟨PD, _, rfl, DGet.k (k := .inr x) (sW _ _ a6), ?_⟩
  rw [some_]
  refine Rd.bl (Rd.brF rfl ?_)
  exact hQ
end

end Bs
set_option Elab.async false
set_option linter.all false
set_option maxRecDepth 100000
set_option maxHeartbeats 200000
/-! the live program's deeds: undone -/
namespace Bs
open PySem PySem.Spec PyProof.Rows L2 Gd Er
local macro_rules | `(tactic| walk_at "rdc") => `(tactic| (first
  | assumption | exact Or.inl ⟨by omega, by omega⟩ | exact Or.inr ⟨by omega, by omega⟩ | exact Or.inl ⟨by decide, by decide⟩ | exact Or.inr ⟨by decide, by decide⟩
  | (show (0 : Int) < _; omega) | (show (0 : Int) < _; decide) | decide | omega | exact ⟨by decide, by decide, by decide⟩ | exact ⟨by decide, by decide +kernel⟩ | decide +kernel))
local macro_rules | `(tactic| walk_at "rdh") => `(tactic| (first | assumption | exact upd_same))
local macro_rules | `(tactic| walk_at "rd1") => `(tactic| (first
  | (with_reducible refine Rd.var rfl ?_) | (with_reducible refine Rd.con ?_) | (with_reducible refine Rd.op ?_) | (with_reducible refine Rd.un ?_) | (with_reducible refine Rd.i0 ?_) | (with_reducible refine Rd.iu ?_)
  | (with_reducible refine Rd.nil ?_) | (with_reducible refine Rd.cons ?_) | (with_reducible refine Rd.cb ?_) | (with_reducible refine Rd.asg ?_) | (with_reducible refine Rd.name ?_) | (with_reducible refine Rd.sub ?_) | (with_reducible refine Rd.rev ?_) | (with_reducible refine Rd.drop ?_) | (with_reducible refine Rd.bm ?_) | (with_reducible refine Rd.par ?_) | (with_reducible refine Rd.p2 ?_) | (with_reducible refine Rd.sl ?_) | (with_reducible refine Rd.noPart ?_) | (with_reducible refine Rd.part ?_) | (with_reducible refine Rd.int_ ?_) | (with_reducible refine Rd.seq ?_)
  | (with_reducible refine Rd.ret ?_) | (with_reducible refine Rd.retN ?_) | (with_reducible refine Rd.nxt ?_) | (with_reducible refine Rd.tst ?_) | (with_reducible refine Rd.tb_ ?_) | (with_reducible refine Rd.tnot ?_)
  | (with_reducible refine Rd.tor ?_) | (with_reducible refine Rd.tand ?_) | (with_reducible refine Rd.ifs ?_) | (with_reducible refine Rd.ife ?_) | (with_reducible refine Rd.lst ?_) | (with_reducible refine Rd.tup ?_)
  | (with_reducible refine Rd.int1 ?_) | (with_reducible refine Rd.bl ?_) | (with_reducible refine Rd.call ?_)
  | (with_reducible refine Rd.mx ?_) | (with_reducible refine Rd.bits ?_) | (with_reducible refine Rd.forR ?_) | (with_reducible refine Rd.forL ?_) | (with_reducible refine Rd.lcR ?_) | (with_reducible refine Rd.lcL ?_) | (with_reducible refine Rd.lcT ?_) | (with_reducible refine Rd.chain ?_) | (with_reducible refine Rd.notv ?_) | (with_reducible refine Rd.forS ?_) | (with_reducible refine Rd.lcS ?_) | (with_reducible refine Rd.str_ ?_) | (with_reducible refine Rd.forE ?_) | (with_reducible refine Rd.lcI ?_) | (with_reducible refine Rd.tgt ?_) | (with_reducible refine Rd.gcons ?_) | (with_reducible refine Rd.gnil ?_) | (with_reducible refine Rd.fld ?_) | (with_reducible refine Rd.sfld ?_) | (with_reducible refine Rd.meth ?_) | (with_reducible refine Rd.forT ?_)
  | ((with_reducible refine' Rd.ixLT ?rh ?ra ?_); (case rh => walk_at "rdh"); (case ra => rfl))
  | ((with_reducible refine' Rd.setL ?rh ?ra ?_); (case rh => walk_at "rdh"); (case ra => rfl))
  | ((with_reducible refine Rd.ic ?rc ?_); (case rc => walk_at "rdc"))))
local macro_rules | `(tactic| walk_at "rd") => `(tactic| (repeat (walk_at "rd1")))


/-! ### what a deed leaves -/
theorem gfld {K : PySem.W.Frag} {to : TE} {f : Str} {v : V} {σ : L2.St} {H : Hp} {R : L2.St → Hp → Prop} (q : to σ H fun x H2 => Rd.fldTo K f v (fun H3 => R σ H3) x H2) : PgFld.gFld K to f v σ H R := q
theorem bm0 {K : PySem.W.Frag} {T : String} {r : V → List V → Hp → VK → Prop} {to : TE} {σ : L2.St} {H : Hp} {Q : VK} (q : to σ H fun x H1 => tyV K T x H1 ∧ r x [] H1 Q) : tBM0 K T r to σ H Q := q
/-- only l and pa change -/
def Two (l pa : Addr) (b : Addr) : Prop := b = l ∨ b = pa
def Did (K : PySem.W.Frag) (C L : Addr) (W H : Hp) (l pa : Addr) (q : Parts) (log : List (PyData × Parts)) (Q : VK) : Prop := ∀ W' H', ButS (Two l pa) H H' → Grow W W' H → Same W' H' → LvAt K C L W' H' l pa q log → Q .non H'
theorem ButS.alive {K : PySem.W.Frag} {C L : Addr} {W H H' : Hp} {l pa : Addr} {q : Parts} {log : List (PyData × Parts)} (b : ButS (Two l pa) H H') (h : LvAt K C L W H' l pa q log) : ∀ x o, H x = some o → ∃ u, H' x = some u := fun x o e => by
  obtain ⟨dx, p, xs, h1, h2, _⟩ := h
  by_cases c : x = l
  · rw [c]; exact ⟨_, h1⟩
  by_cases c2 : x = pa
  · rw [c2]; exact ⟨_, h2⟩
  exact ⟨o, b x o (fun z => z.elim c c2) e⟩
theorem PastE.last {K : PySem.W.Frag} {C : Addr} {W : Hp} {d : PyData} {q : Parts} : ∀ {xs : List V} {log : List (PyData × Parts)}, PastE K C W xs (log ++ [(d, q)]) → ∃ t x p ys, xs = ys ++ [.ref t] ∧ W t = some (.tup [x, .ref p]) ∧ Dq K W x d ∧ PAt K C W p q ∧ PastE K C W ys log
  | xs, [], h => by
    cases h with
    | cons a b c r =>
      cases r
      exact ⟨_, _, _, [], rfl, a, b, c, .nil⟩
  | xs, e :: log, h => by
    cases h with
    | cons a b c r =>
      obtain ⟨t, x, p, ys, rfl, h1, h2, h3, h4⟩ := PastE.last r
      exact ⟨t, x, p, _ :: ys, rfl, h1, h2, h3, .cons a b c h4⟩
theorem PastE.len {K : PySem.W.Frag} {C : Addr} {W : Hp} : ∀ {xs : List V} {log : List (PyData × Parts)}, PastE K C W xs log → xs.length = log.length
  | _, _, .nil => rfl
  | _, _, .cons _ _ _ r => by rw [List.length_cons, List.length_cons, PastE.len r]
/-! ### Live.back, of deeds -/
abbrev s_Live_back : Stmt := clsM (top 27) 9
abbrev N_Live_back : List Str := ["self", "deed"]
theorem sc_Live_back : FnScope N_Live_back ["self"] (defScope s_Live_back) := ⟨rfl, rfl, rfl, by decide +kernel, rfl, by decide +kernel, by decide +kernel⟩
def sp_back0 (K : PySem.W.Frag) (C L : Addr) : Sp := fun vs H Q _ => ∃ (l pa : Addr) (W : Hp) (q q' : Parts) (log : List (PyData × Parts)) (d : PyData), vs = [.ref l] ∧ LCls K L ∧ Same W H ∧ LvAt K C L W H l pa q (log ++ [(d, q')]) ∧ Did K C L W H l pa q' log Q
section
variable {P : Program} {w : World} {K : PySem.W.Frag} {mg : Str → Option Value} {base : Heap} {C L f : Addr} {fd : FuncData}
theorem ok_back0 (F : FnM K "back" "Live.back" s_Live_back f fd) (T : TxtN mg) :
    FnOk P w K mg base CX0 1 f fd ["self"] (sp_back0 K C L) := by
  refine F.ok sc_Live_back (fun vs H Q E h => ?_) (fun cdv A outer s H vs Q E hr h => ?_)
  · obtain ⟨l, pa, W, q, q', log, d, rfl, _⟩ := h
    rfl
  obtain ⟨l, pa, W, q, q', log, d, rfl, hL, sW, hv, hQ⟩ := h
  refine ⟨_, PSs.nox (pss_cons (ps_if (pt_cmpR (show OpR _ (compareOp .Eq) (Lst0.rLst0 K) from Lst0.op_lst0 hr.units0) (Rd.pe_fldK (K := K) rfl (pv 0) rfl) (pe_lst pa_nil) (nomark _)) (pss_one ps_never) pss_nil)
    (pss_one (ps_asg (pe_bm0 PySem.F.plainAttrs_list PySem.F.slot_list_pop PySem.F.type_list_pop mt_pop (Rd.pe_fldK (K := K) rfl (pv 0) rfl)) (Rd.pg_tupK (K := K) (n := 2) rfl (by rfl) (pgs_cons (pg_name (i := 1) sc_Live_back.nd rfl (by first | exact Or.inl rfl | exact Or.inr rfl)) (pgs_cons (PgFld.pg_fldK (K := K) rfl (pv 0)) pgs_nil)))))), ?_⟩
  obtain ⟨dx, p, xs, h1, h2, h3, h4, h5, h6, h7⟩ := hv
  obtain ⟨t, x, p', ys, rfl, b1, b2, b3, b4⟩ := PastE.last h7
  walk_at "rd"
  refine Rd.fldAt h1 hL.c hL.n2 rfl ?_
  walk_at "rd"
  refine ⟨Nat.zero_le _, fun b hb => ?_⟩
  have s1 := same_upd (o := HO.lst []) hb
  refine Lst0.at_ (.inl (.inl (s1 _ _ h2))) (.inl (.inl upd_same)) ?_
  refine Rd.bl (Rd.brF (by cases ys <;> rfl) ?_)
  walk_at "rd"
  refine bm0 ?_
  walk_at "rd"
  refine Rd.fldAt (s1 _ _ h1) hL.c hL.n2 rfl ?_
  refine ⟨.inl ⟨rfl, _, .inl (.inl (s1 _ _ h2))⟩, ?_⟩
  walk_at "rd"
  refine ⟨pa, _, .ref t, rfl, rfl, s1 _ _ h2, by simp, ?_⟩
  have nb : ∀ y o, W y = some o → y ≠ pa := fun y o e z => by rw [z, h5] at e; cases e
  have nl : ∀ y o, W y = some o → y ≠ l := fun y o e z => by rw [z, h4] at e; cases e
  refine Rd.tgt (Rd.tgAt (.inl (.inl ((upd_ne (nb _ _ b1)).trans ((sW.trans s1) _ _ b1)))) rfl ?_)
  walk_at "rd"
  refine gfld ?_
  walk_at "rd"
  refine Rd.fldPut ((upd_ne h3).trans (s1 _ _ h1)) hL.c hL.n1 ?_
  walk_at "rd"
  refine hQ W _ (fun y o n e => ?_) Grow.refl (fun y o e => ?_) ⟨dx, p', ys, upd_same, ?_, h3, h4, h5, b3, b4⟩
  · have n1 : y ≠ l := fun z => n (.inl z)
    have n2 : y ≠ pa := fun z => n (.inr z)
    exact (upd_ne n1).trans ((upd_ne n2).trans (s1 _ _ e))
  · exact (upd_ne (nl _ _ e)).trans ((upd_ne (nb _ _ e)).trans ((sW.trans s1) _ _ e))
  · refine (upd_ne (Ne.symm h3)).trans (upd_same.trans ?_)
    rw [List.dropLast_concat]
end
/-! ### Live.lead -/
abbrev s_Live_lead : Stmt := clsM (top 27) 2
abbrev N_Live_lead : List Str := ["self", "deed", "owners", "functions"]
theorem sc_Live_lead : FnScope N_Live_lead ["self", "deed", "owners", "functions"] (defScope s_Live_lead) := ⟨rfl, rfl, rfl, by decide +kernel, rfl, by decide +kernel, by decide +kernel⟩
def sp_lead (K : PySem.W.Frag) (C L : Addr) : Sp := fun vs H Q _ => ∃ (l pa O F : Addr) (x : V) (W : Hp) (q : Parts) (os : List (Str × List Str)) (fs : List (Str × Str × Bdy)) (log : List (PyData × Parts)) (d : PyData), vs = [.ref l, x, .ref O, .ref F] ∧ PCls K C ∧ LCls K L ∧ Same W H ∧ LvAt K C L W H l pa q log ∧
  Dq K W x d ∧ Dq K W (.ref O) (ownD os) ∧ Dq K W (.ref F) (funD fs) ∧ Fits ⟨q.rs, os, fs⟩ ∧ log.length < 900 ∧ Did K C L W H l pa ⟨q.rs, os, fs⟩ (log ++ [(d, q)]) Q
section
variable {P : Program} {w : World} {K : PySem.W.Frag} {mg : Str → Option Value} {base : Heap} {C L f f_r f_i : Addr} {fd fd_r fd_i : FuncData}
theorem ok_lead (F : FnM K "lead" "Live.lead" s_Live_lead f fd)
    (m_Program_rights : Meth K C "rights" f_r) (G_Program_rights : FnOk P w K mg base CX0 1 f_r fd_r ["self"] (sp_prights K C)) (b_Program_rights : Binds K fd_r ["self"] [])
    (c_Program : Cls K C) (M_Program : Mk K C f_i) (G_Program : FnOk P w K mg base CX0 16 f_i fd_i ["self", "rights", "owners", "functions"] (sp_pinit K)) (g_Program : mg "Program" = some (.ref C)) (b_Program : Binds K fd_i ["self", "rights", "owners", "functions"] []) (T : TxtN mg) :
    FnOk P w K mg base CX0 18 f fd ["self", "deed", "owners", "functions"] (sp_lead K C L) := by
  refine F.ok sc_Live_lead (fun vs H Q E h => ?_) (fun cdv A outer s H vs Q E hr h => ?_)
  · obtain ⟨l, pa, O, F, x, W, q, os, fs, log, d, rfl, _⟩ := h
    rfl
  obtain ⟨l, pa, O, F0, x, W, q, os, fs, log, d, rfl, hC, hL, sW, hv, dx, dO, dF, ft, hl, hQ⟩ := h
  refine ⟨_, PSs.nox (pss_cons (ps_expr (pe_bm PySem.F.plainAttrs_list PySem.F.slot_list_append PySem.F.type_list_append mt_append (Rd.pe_fldK (K := K) rfl (pv 0) rfl) (pa_cons (pe_tup (pa_cons (pv 1) (pa_cons (Rd.pe_fldK (K := K) rfl (pv 0) rfl) pa_nil))) pa_nil)))
    (pss_one (Rd.ps_fldK (K := K) rfl (pv 0) (pe_make M_Program G_Program (hr.mono (by omega)) (by rfl) g_Program b_Program .nil pass0 (pa_cons (pe_meth0 (Rd.pe_fldK (K := K) rfl (pv 0) rfl) c_Program m_Program_rights G_Program_rights (hr.mono (by omega)) b_Program_rights .nil pass0) (pa_cons (pv 2) (pa_cons (pv 3) pa_nil)))) rfl))), ?_⟩
  obtain ⟨dxl, p, xs, h1, h2, h3, h4, h5, h6, h7⟩ := hv
  have nb : ∀ y o, W y = some o → y ≠ pa := fun y o e z => by rw [z, h5] at e; cases e
  have nl : ∀ y o, W y = some o → y ≠ l := fun y o e z => by rw [z, h4] at e; cases e
  walk_at "rd"
  refine Rd.fldAt h1 hL.c hL.n2 rfl ?_
  refine Rd.app h2 ?_
  walk_at "rd"
  refine Rd.fldAt h1 hL.c hL.n1 rfl ?_
  walk_at "rd"
  refine mkTs fun t H1 n1 s1 e1 => ?_
  walk_at "rd"
  refine Rd.appTo (s1 _ _ h2) (by rw [PastE.len h7]; omega) ?_
  have Wt : W t = none := same_none sW n1
  have tpa : t ≠ pa := fun z => by rw [z, h2] at n1; cases n1
  have tl : t ≠ l := fun z => by rw [z, h1] at n1; cases n1
  have sW1 : Same (upd W t (.tup [x, .ref p])) (upd H1 pa (.lst (xs ++ [.ref t]))) := by
    refine same_put (fun y o e => ?_) ((upd_ne tpa).trans e1)
    exact (upd_ne (nb _ _ e)).trans ((sW.trans s1) _ _ e)
  have hl2 : upd H1 pa (.lst (xs ++ [.ref t])) l = some (.ins L dxl [("now", .ref p), ("past", .ref pa)]) := (upd_ne h3).trans (s1 _ _ h1)
  have hp2 : upd H1 pa (.lst (xs ++ [.ref t])) pa = some (.lst (xs ++ [.ref t])) := upd_same
  have b2 : ButS (Two l pa) H (upd H1 pa (.lst (xs ++ [.ref t]))) := fun y o n e => (upd_ne fun z => n (.inr z)).trans (s1 _ _ e)
  have al : ∀ y o, H y = some o → ∃ u, upd H1 pa (.lst (xs ++ [.ref t])) y = some u := fun y o e => by
    by_cases c : y = pa
    · rw [c]; exact ⟨_, upd_same⟩
    · exact ⟨o, (upd_ne c).trans (s1 _ _ e)⟩
  have g1 : Grow W (upd W t (.tup [x, .ref p])) H := (Grow.refl (W := W) (H := H)).put n1 Wt
  have sg : Same W (upd W t (.tup [x, .ref p])) := same_upd Wt
  have w1l : upd W t (.tup [x, .ref p]) l = none := (upd_ne (Ne.symm tl)).trans h4
  have w1p : upd W t (.tup [x, .ref p]) pa = none := (upd_ne (Ne.symm tpa)).trans h5
  have pe : PastE K C (upd W t (.tup [x, .ref p])) (xs ++ [.ref t]) (log ++ [(d, q)]) := PastE.snoc upd_same (Dq.same sg _ _ dx) (h6.same sg) (PastE.same sg h7)
  have dO1 := Dq.same sg _ _ dO
  have dF1 := Dq.same sg _ _ dF
  have h61 := h6.same sg
  generalize upd W t (.tup [x, .ref p]) = W1 at *
  generalize upd H1 pa (.lst (xs ++ [.ref t])) = H2 at *
  obtain ⟨W0, pdx, PL, PD, PB, kv1, kv2, s0, a1, a2, a3, a4, a5, a6, a7, a8, a9, ftq⟩ := id h61
  walk_at "rd"
  refine make_ ?_
  walk_at "rd"
  refine Rd.fldAt hl2 hL.c hL.n1 rfl ?_
  refine Rd.methAt (sW1 _ _ a4) rfl ?_
  walk_at "rd"
  refine ⟨p, W1, q, rfl, hC, sW1, h61, fun R H3 n3 s3 e3 => ?_⟩
  walk_at "rd"
  have WR : W1 R = none := same_none sW1 n3
  have g3 : Grow W1 (upd W1 R (.lst (q.rs.map V.str))) H2 := (Grow.refl (W := W1) (H := H2)).put n3 WR
  have sW3 : Same (upd W1 R (.lst (q.rs.map V.str))) H3 := same_put (sW1.trans s3) e3
  refine mkProg (Q := fun v H4 => tVar 0 (L2.start N_Live_lead [V.ref l, x, .ref O, .ref F0]) H4 fun x2 H5 => Rd.fldTo K "now" v (fun H6 => Q V.non H6) x2 H5) (q := ⟨q.rs, os, fs⟩) hC sW3 (.lst (.inl (.inl upd_same)) (dqAll_strs q.rs)) (Dq.same g3.s _ _ dO1) (Dq.same g3.s _ _ dF1) ft (fun p9 W9 H9 s9 g9 sW9 hp9 n9 => ?_)
  walk_at "rd"
  refine Rd.fldPut (s9 _ _ (s3 _ _ hl2)) hL.c hL.n1 ?_
  have g29 : Grow W1 W9 H2 := g3.trans g9 (Same.alive s3)
  have w9l : W9 l = none := g29.n l _ hl2 w1l
  have w9p : W9 pa = none := g29.n pa _ hp2 w1p
  refine hQ W9 _ (fun y o n e => ?_) (g1.trans g29 al) (fun y o e => ?_) ⟨dxl, p9, xs ++ [.ref t], upd_same, ?_, h3, w9l, w9p, hp9, PastE.same g29.s pe⟩
  · exact (upd_ne fun z => n (.inl z)).trans (s9 _ _ (s3 _ _ (b2 y o n e)))
  · exact (upd_ne fun z => by rw [z, w9l] at e; cases e).trans (sW9 _ _ e)
  · exact (upd_ne (Ne.symm h3)).trans (s9 _ _ (s3 _ _ hp2))
end

/-! ### rows being collected -/
theorem newW {W W1 H H1 H2 : Hp} {p : Addr} {o : HO} (g : Grow W W1 H) (s : Same H H1) (sW : Same W1 H1) (n : H1 p = none) (s2 : Same H1 H2) (e : H2 p = some o) : Grow W (upd W1 p o) H ∧ Same (upd W1 p o) H2 ∧ Same W1 (upd W1 p o) :=
  ⟨g.put (same_none s n) (same_none sW n), same_put (sW.trans s2) e, same_upd (same_none sW n)⟩
theorem Grow.pre {W W2 H H1 : Hp} (s : Same H H1) (g : Grow W W2 H1) : Grow W W2 H := ⟨g.s, fun b o e w => g.n b o (s b o e) w⟩
/-- D is a list being filled, over H; V is known data -/
def Coll (K : PySem.W.Frag) (V W H : Hp) (D : Addr) (Hn : Hp) (ds : List PyData) : Prop := ∃ (W' : Hp) (its : List L2.V), Same V W' ∧ Grow W W' H ∧ Same W' Hn ∧ W' D = none ∧ Same H Hn ∧ Hn D = some (.lst its) ∧ DqAll K W' its ds
section
variable {K : PySem.W.Frag} {V W H Hn H1 H2 W1 W2 : Hp} {D : Addr} {ds ds' : List PyData} {its : List L2.V}
theorem Coll.nil (sW : Same W H) (hD : H D = none) : Coll K W W H D (upd H D (.lst [])) [] := ⟨W, [], Same.refl W, Grow.refl, sW.trans (same_upd hD), same_none sW hD, same_upd hD, upd_same, .nil⟩
theorem Coll.put {y : L2.V} {dd : PyData} (a0 : Same V W1) (a1 : Grow W W1 H) (a3 : W1 D = none) (a4 : Same H H1) (a5 : H1 D = some (.lst its)) (a6 : DqAll K W1 its ds) (hD : H D = none)
    (s : Same H1 H2) (g : Grow W1 W2 H1) (sW2 : Same W2 H2) (d : Dq K W2 y dd) (e : ds' = ds ++ [dd]) : H2 D = some (.lst its) ∧ Coll K V W H D (upd H2 D (.lst (its ++ [y]))) ds' := by
  have wD : W2 D = none := g.n D _ a5 a3
  refine ⟨s _ _ a5, W2, its ++ [y], a0.trans g.s, a1.trans g (Same.alive a4), ?_, wD, ?_, upd_same, ?_⟩
  · intro z u e
    exact (upd_ne (fun v => by rw [v, wD] at e; cases e)).trans (sW2 _ _ e)
  · intro z u e
    exact (upd_ne (ne_of_none e hD)).trans (s _ _ (a4 _ _ e))
  · rw [e]
    exact dqAll_app (.cons d .nil) (Dq.sameAll g.s _ _ a6)
theorem Coll.acc {y : L2.V} {dd : PyData} (a0 : Same V W1) (a1 : Grow W W1 H) (a3 : W1 D = none) (a4 : Same H H1) (a5 : H1 D = some (.lst its)) (a6 : DqAll K W1 its ds) (hD : H D = none)
    (s : Same H1 H2) (g : Grow W1 W2 H1) (sW2 : Same W2 H2) (d : Dq K W2 y dd) (e : ds' = ds ++ [dd]) (n : ds.length < 1000) : Rd.accs D (fun H9 => Coll K V W H D H9 ds') y H2 := by
  obtain ⟨b1, b2⟩ := Coll.put a0 a1 a3 a4 a5 a6 hD s g sW2 d e
  exact Rd.acc b1 (by rw [dqAll_len a6]; exact n) b2
theorem Coll.done (hD : H D = none) (c : Coll K V W H D Hn ds) : ∃ W2, Same V W2 ∧ Grow W W2 H ∧ Same W2 Hn ∧ Same H Hn ∧ Dq K W2 (.ref D) (.list ds) := by
  obtain ⟨W', its, a0, a1, a2, a3, a4, a5, a6⟩ := c
  exact ⟨upd W' D (.lst its), a0.trans (same_upd a3), a1.put hD a3, same_put a2 a5, a4, .lst (.inl (.inl upd_same)) (Dq.sameAll (same_upd a3) _ _ a6)⟩
theorem Coll.seen (c : Coll K V W H D Hn ds) : Same V Hn := by
  obtain ⟨W', its, a0, a1, a2, a3, a4, a5, a6⟩ := c
  exact a0.trans a2
theorem Coll.old (c : Coll K V W H D Hn ds) : Same H Hn := by
  obtain ⟨W', its, a0, a1, a2, a3, a4, a5, a6⟩ := c
  exact a4
end
theorem take_map {α β : Type} {f : α → β} {xs : List α} {i : Nat} {x : α} (h : xs[i]? = some x) : (xs.take (i + 1)).map f = (xs.take i).map f ++ [f x] := by
  rw [List.take_add_one, h, List.map_append]
  rfl
theorem ds_get {α : Type} {K : PySem.W.Frag} {W : Hp} {xs : List V} {ys : List α} {f : α → PyData} {i : Nat} {x : V} (h : DqAll K W xs (ys.map f)) (e : xs[i]? = some x) : ∃ y, ys[i]? = some y ∧ Dq K W x (f y) := by
  obtain ⟨d, hd, hx⟩ := dqAll_get h e
  rw [List.getElem?_map] at hd
  obtain ⟨y, hy, rfl⟩ := Option.map_eq_some_iff.mp hd
  exact ⟨y, hy, hx⟩
theorem take_len {α β : Type} {f : α → β} {xs : List α} {i n : Nat} (h : xs.length < n) : ((xs.take i).map f).length < n := by
  rw [List.length_map, List.length_take]
  omega
/-- [x] if b else [] -/
theorem iteL {b : Bool} {tv : TE} {x : V} {σ : L2.St} {H : Hp} {Q : VK} (hv : ∀ H1 Q1, Q1 x H1 → tv σ H1 Q1) (q : ∀ e H2, H e = none → Same H H2 → H2 e = some (.lst (if b = true then [x] else [])) → Q (.ref e) H2) : if b = true then tLst (tCons tv tNil) σ H Q else tLst tNil σ H Q := by
  cases b with
  | true =>
    rw [if_pos rfl]
    exact Rd.lst (Rd.cons (hv _ _ (mkLs q)))
  | false =>
    rw [if_neg Bool.false_ne_true]
    exact Rd.lst (Rd.nil (mkLs q))
theorem Did.up {K : PySem.W.Frag} {C L : Addr} {W H W1 H1 : Hp} {l pa : Addr} {q : Parts} {log : List (PyData × Parts)} {Q : VK} (h : Did K C L W H l pa q log Q) (s : Same H H1) (g : Grow W W1 H) : Did K C L W1 H1 l pa q log Q :=
  fun W' H' b gr sW hv => h W' H' ((ButS.of s).trans b) (g.trans gr (Same.alive s)) sW hv

end Bs
set_option Elab.async false
set_option linter.all false
set_option maxRecDepth 100000
set_option maxHeartbeats 200000
/-! the parts behind a deed -/
namespace Bs
open PySem PySem.Spec PyProof.Rows L2 Gd Er
/-! ### the parts behind a deed -/
def grantP (q : Parts) (n r : Str) : Parts := ⟨q.rs, q.os.map fun o => (o.1, if o.1 = n then o.2 ++ [r] else o.2), q.fs⟩
def revokeP (q : Parts) (n r : Str) : Parts := ⟨q.rs, q.os.map fun o => (o.1, o.2.filter fun x => !(decide (o.1 = n) && decide (x = r))), q.fs⟩
def rewriteP (q : Parts) (n : Str) (b : Bdy) : Parts := ⟨q.rs, q.os, q.fs.map fun f => (f.1, f.2.1, if f.1 = n then b else f.2.2)⟩
theorem nodup_len {α : Type} [DecidableEq α] : ∀ {l m : List α}, l.Nodup → (∀ x, x ∈ l → x ∈ m) → l.length ≤ m.length
  | [], _, _, _ => Nat.zero_le _
  | x :: l, m, h, s => by
    have hx := s x List.mem_cons_self
    have h2 := List.nodup_cons.mp h
    have := nodup_len (l := l) (m := m.erase x) h2.2 (fun y hy => (List.mem_erase_of_ne (fun z => h2.1 (by rw [← z]; exact hy))).mpr (s y (List.mem_cons_of_mem _ hy)))
    rw [List.length_erase_of_mem hx] at this
    have := List.length_pos_of_mem hx
    rw [List.length_cons]
    omega
theorem map_fst {α β : Type} {g : α × β → β} (l : List (α × β)) : (l.map fun o => (o.1, g o)).map (·.1) = l.map (·.1) := by
  rw [List.map_map]
  rfl
theorem fits_os {q : Parts} (ft : Fits q) (g : Str × List Str → List Str) (h : ∀ o, o ∈ q.os → (g o).Nodup ∧ ∀ r, r ∈ g o → r ∈ q.rs) : Fits ⟨q.rs, q.os.map fun o => (o.1, g o), q.fs⟩ := by
  have e : (q.os.map fun o => (o.1, g o)).map (·.1) = q.os.map (·.1) := map_fst (g := g) q.os
  refine { r0 := ft.r0, r1 := ft.r1, rn := ft.rn, rd := ft.rd, o0 := ?_, o1 := ?_, oo := fun o ho => ?_, od := ?_, f0 := ft.f0, f1 := ft.f1, fd := ft.fd, ff := fun f hf => ?_ }
  · show 1 ≤ (q.os.map _).length
    rw [List.length_map]; exact ft.o0
  · show (q.os.map _).length ≤ 5
    rw [List.length_map]; exact ft.o1
  · obtain ⟨o', ho', rfl⟩ := List.mem_map.mp ho
    obtain ⟨h1, h2⟩ := h o' ho'
    have := nodup_len h1 h2
    have := ft.r1
    exact ⟨(ft.oo o' ho').1, h1, h2, by show (g o').length ≤ 100; omega⟩
  · show ((q.os.map fun o => (o.1, g o)).map (·.1)).Nodup
    rw [e]; exact ft.od
  · show NameOk f.1 ∧ f.2.1 ∈ (q.os.map fun o => (o.1, g o)).map (·.1) ∧ _
    rw [e]
    exact ft.ff f hf
theorem fits_grant {q : Parts} {n r : Str} (ft : Fits q) (hr : r ∈ q.rs) (hn : ∀ o, o ∈ q.os → o.1 = n → r ∉ o.2) : Fits (grantP q n r) := fits_os ft _ fun o ho => by
  obtain ⟨_, a, b, _⟩ := ft.oo o ho
  by_cases c : o.1 = n
  · rw [if_pos c]
    refine ⟨List.nodup_append.mpr ⟨a, by simp, fun x hx y hy z => ?_⟩, fun x hx => ?_⟩
    · rw [List.mem_singleton] at hy
      exact hn o ho c (by rw [← hy, ← z]; exact hx)
    · rcases List.mem_append.mp hx with hx | hx
      · exact b x hx
      · rw [List.mem_singleton.mp hx]; exact hr
  · rw [if_neg c]
    exact ⟨a, b⟩
theorem fits_revoke {q : Parts} {n r : Str} (ft : Fits q) : Fits (revokeP q n r) := fits_os ft _ fun o ho => by
  obtain ⟨_, a, b, _⟩ := ft.oo o ho
  exact ⟨List.Sublist.nodup List.filter_sublist a, fun x hx => b x (List.mem_filter.mp hx).1⟩
theorem fits_rewrite {q : Parts} {n : Str} {b : Bdy} (ft : Fits q) (h1 : b.ok q.rs (q.fs.map (·.1)) false) (h2 : b.dp ≤ 6) (h3 : b.wide 500) : Fits (rewriteP q n b) := by
  have e : (q.fs.map fun f => (f.1, f.2.1, if f.1 = n then b else f.2.2)).map (·.1) = q.fs.map (·.1) := by rw [List.map_map]; rfl
  refine { r0 := ft.r0, r1 := ft.r1, rn := ft.rn, rd := ft.rd, o0 := ft.o0, o1 := ft.o1, oo := ft.oo, od := ft.od, f0 := ?_, f1 := ?_, fd := ?_, ff := fun f hf => ?_ }
  · show 1 ≤ (q.fs.map _).length
    rw [List.length_map]; exact ft.f0
  · show (q.fs.map _).length ≤ 6
    rw [List.length_map]; exact ft.f1
  · show ((q.fs.map fun f => (f.1, f.2.1, if f.1 = n then b else f.2.2)).map (·.1)).Nodup
    rw [e]; exact ft.fd
  · show NameOk f.1 ∧ f.2.1 ∈ q.os.map (·.1) ∧ f.2.2.ok q.rs ((q.fs.map fun f => (f.1, f.2.1, if f.1 = n then b else f.2.2)).map (·.1)) false ∧ _
    rw [e]
    obtain ⟨f', hf', rfl⟩ := List.mem_map.mp hf
    obtain ⟨a1, a2, a3, a4, a5⟩ := ft.ff f' hf'
    refine ⟨a1, a2, ?_⟩
    show (if f'.1 = n then b else f'.2.2).ok _ _ _ ∧ (if f'.1 = n then b else f'.2.2).dp ≤ 6 ∧ (if f'.1 = n then b else f'.2.2).wide 500
    by_cases c : f'.1 = n
    · rw [if_pos c]; exact ⟨h1, h2, h3⟩
    · rw [if_neg c]; exact ⟨a3, a4, a5⟩
/-! ### Live.grant, Live.revoke -/
theorem inStrT {K : PySem.W.Frag} {H : Hp} {Q : VK} {neg : Bool} {x : Str} {p : Addr} {xs : List Str} (h : SqT K H p (xs.map V.str)) (q : Q (.bl (if neg then !decide (x ∈ xs) else decide (x ∈ xs))) H) : rIn K neg (.str x) (.ref p) H Q := by
  rw [← inV_str] at q
  exact ⟨p, _, rfl, .inr h, rfl, flat_str _, q⟩
theorem HeldE.find {W : Hp} {n : Str} {rs : List Str} : ∀ {kvs : List (Key × V)} {os : List (Str × List Str)}, HeldE W kvs os → (os.map (·.1)).Nodup → (n, rs) ∈ os → ∃ t, valV kvs (.inr n) = some (.ref t) ∧ W t = some (.tup (rs.map V.str))
  | _, _, .nil, _, m => by cases m
  | _, _, .cons (n := n') h r, nd, m => by
    rw [List.map_cons] at nd
    have nd2 := List.nodup_cons.mp nd
    rcases List.mem_cons.mp m with m | m
    · cases m
      exact ⟨_, valV_pos rfl, h⟩
    · have : n ∈ (_ : List (Str × List Str)).map (·.1) := List.mem_map.mpr ⟨_, m, rfl⟩
      rw [valV_neg (fun z => nd2.1 (by injection z with z; rw [z]; exact this))]
      exact HeldE.find r nd2.2 m
theorem dget {td ty : TE} {σ : L2.St} {H : Hp} {Q : VK} (q : td σ H fun x H1 => ty σ H1 fun y H2 => ∃ a v, x = .ref a ∧ DGet H2 a y (some v) ∧ Q v H2) : tDGet td ty σ H Q := q

end Bs
set_option Elab.async false
set_option linter.all false
set_option maxRecDepth 100000
set_option maxHeartbeats 200000
/-! Live.grant -/
namespace Bs
open PySem PySem.Spec PyProof.Rows L2 Gd Er
local macro_rules | `(tactic| walk_at "rdc") => `(tactic| (first
  | assumption | exact Or.inl ⟨by omega, by omega⟩ | exact Or.inr ⟨by omega, by omega⟩ | exact Or.inl ⟨by decide, by decide⟩ | exact Or.inr ⟨by decide, by decide⟩
  | (show (0 : Int) < _; omega) | (show (0 : Int) < _; decide) | decide | omega | exact ⟨by decide, by decide, by decide⟩ | exact ⟨by decide, by decide +kernel⟩ | decide +kernel))
local macro_rules | `(tactic| walk_at "rdh") => `(tactic| (first | assumption | exact upd_same))
local macro_rules | `(tactic| walk_at "rd1") => `(tactic| (first
  | (with_reducible refine Rd.var rfl ?_) | (with_reducible refine Rd.con ?_) | (with_reducible refine Rd.op ?_) | (with_reducible refine Rd.un ?_) | (with_reducible refine Rd.i0 ?_) | (with_reducible refine Rd.iu ?_)
  | (with_reducible refine Rd.nil ?_) | (with_reducible refine Rd.cons ?_) | (with_reducible refine Rd.cb ?_) | (with_reducible refine Rd.asg ?_) | (with_reducible refine Rd.name ?_) | (with_reducible refine Rd.sub ?_) | (with_reducible refine Rd.rev ?_) | (with_reducible refine Rd.drop ?_) | (with_reducible refine Rd.bm ?_) | (with_reducible refine Rd.par ?_) | (with_reducible refine Rd.p2 ?_) | (with_reducible refine Rd.sl ?_) | (with_reducible refine Rd.noPart ?_) | (with_reducible refine Rd.part ?_) | (with_reducible refine Rd.int_ ?_) | (with_reducible refine Rd.seq ?_)
  | (with_reducible refine Rd.ret ?_) | (with_reducible refine Rd.retN ?_) | (with_reducible refine Rd.nxt ?_) | (with_reducible refine Rd.tst ?_) | (with_reducible refine Rd.tb_ ?_) | (with_reducible refine Rd.tnot ?_)
  | (with_reducible refine Rd.tor ?_) | (with_reducible refine Rd.tand ?_) | (with_reducible refine Rd.ifs ?_) | (with_reducible refine Rd.ife ?_) | (with_reducible refine Rd.lst ?_) | (with_reducible refine Rd.tup ?_)
  | (with_reducible refine Rd.int1 ?_) | (with_reducible refine Rd.bl ?_) | (with_reducible refine Rd.call ?_)
  | (with_reducible refine Rd.mx ?_) | (with_reducible refine Rd.bits ?_) | (with_reducible refine Rd.forR ?_) | (with_reducible refine Rd.forL ?_) | (with_reducible refine Rd.lcR ?_) | (with_reducible refine Rd.lcL ?_) | (with_reducible refine Rd.lcT ?_) | (with_reducible refine Rd.chain ?_) | (with_reducible refine Rd.notv ?_) | (with_reducible refine Rd.forS ?_) | (with_reducible refine Rd.lcS ?_) | (with_reducible refine Rd.str_ ?_) | (with_reducible refine Rd.forE ?_) | (with_reducible refine Rd.lcI ?_) | (with_reducible refine Rd.tgt ?_) | (with_reducible refine Rd.gcons ?_) | (with_reducible refine Rd.gnil ?_) | (with_reducible refine Rd.fld ?_) | (with_reducible refine Rd.sfld ?_) | (with_reducible refine Rd.meth ?_) | (with_reducible refine Rd.forT ?_)
  | ((with_reducible refine' Rd.ixLT ?rh ?ra ?_); (case rh => walk_at "rdh"); (case ra => rfl))
  | ((with_reducible refine' Rd.setL ?rh ?ra ?_); (case rh => walk_at "rdh"); (case ra => rfl))
  | ((with_reducible refine Rd.ic ?rc ?_); (case rc => walk_at "rdc"))))
local macro_rules | `(tactic| walk_at "rd") => `(tactic| (repeat (walk_at "rd1")))


/-! ### Live.grant -/
abbrev s_Live_grant : Stmt := clsM (top 27) 3
abbrev N_Live_grant : List Str := ["self", "owner", "right", "rows", "name", "rights"]
theorem sc_Live_grant : FnScope N_Live_grant ["self", "owner", "right"] (defScope s_Live_grant) := ⟨rfl, rfl, rfl, by decide +kernel, rfl, by decide +kernel, by decide +kernel⟩
def sp_grant (K : PySem.W.Frag) (C L : Addr) : Sp := fun vs H Q _ => ∃ (l pa : Addr) (n r : Str) (rs : List Str) (W : Hp) (q : Parts) (log : List (PyData × Parts)), vs = [.ref l, .str n, .str r] ∧ PCls K C ∧ LCls K L ∧ Same W H ∧ LvAt K C L W H l pa q log ∧
  (n, rs) ∈ q.os ∧ r ∈ q.rs ∧ r ∉ rs ∧ log.length < 900 ∧ Did K C L W H l pa (grantP q n r) (log ++ [(.tuple [.str "grant", .str n, .str r], q)]) Q
theorem own_uniq {n : Str} {a b : List Str} : ∀ {os : List (Str × List Str)}, (os.map (·.1)).Nodup → (n, a) ∈ os → (n, b) ∈ os → a = b
  | [], _, h, _ => by cases h
  | o :: os, nd, h1, h2 => by
    rw [List.map_cons] at nd
    have nd2 := List.nodup_cons.mp nd
    rcases List.mem_cons.mp h1 with h1 | h1
    · rcases List.mem_cons.mp h2 with h2 | h2
      · rw [← h1] at h2; cases h2; rfl
      · exact absurd (by rw [← h1]; exact List.mem_map.mpr ⟨_, h2, rfl⟩) nd2.1
    · rcases List.mem_cons.mp h2 with h2 | h2
      · exact absurd (by rw [← h2]; exact List.mem_map.mpr ⟨_, h1, rfl⟩) nd2.1
      · exact own_uniq nd2.2 h1 h2
section
variable {P : Program} {w : World} {K : PySem.W.Frag} {mg : Str → Option Value} {base : Heap} {C L f f_k f_o f_f f_l : Addr} {fd fd_k fd_o fd_f fd_l : FuncData}
theorem ok_grant (F : FnM K "grant" "Live.grant" s_Live_grant f fd) (c_Live : Cls K L) (c_Program : Cls K C)
    (m_Live_check_owner : Meth K L "check_owner" f_k) (G_Live_check_owner : FnOk P w K mg base CX0 1 f_k fd_k ["self", "name"] (sp_chko K C L)) (b_Live_check_owner : Binds K fd_k ["self", "name"] [])
    (m_Program_owners : Meth K C "owners" f_o) (G_Program_owners : FnOk P w K mg base CX0 1 f_o fd_o ["self"] (sp_powners K C)) (b_Program_owners : Binds K fd_o ["self"] [])
    (m_Program_functions : Meth K C "functions" f_f) (G_Program_functions : FnOk P w K mg base CX0 15 f_f fd_f ["self"] (sp_pfunctions K C)) (b_Program_functions : Binds K fd_f ["self"] [])
    (m_Live_lead : Meth K L "lead" f_l) (G_Live_lead : FnOk P w K mg base CX0 18 f_l fd_l ["self", "deed", "owners", "functions"] (sp_lead K C L)) (b_Live_lead : Binds K fd_l ["self", "deed", "owners", "functions"] []) (T : TxtN mg) :
    FnOk P w K mg base CX0 19 f fd ["self", "owner", "right"] (sp_grant K C L) := by
  refine F.ok sc_Live_grant (fun vs H Q E h => ?_) (fun cdv A outer s H vs Q E hr h => ?_)
  · obtain ⟨l, pa, n, r, rs, W, q, log, rfl, _⟩ := h
    rfl
  obtain ⟨l, pa, n, r, rs, W, q, log, rfl, hC, hL, sW, hv, hn, hrr, hrn, hl, hQ⟩ := h
  refine ⟨_, PSs.nox (pss_cons (ps_expr (pe_meth (pv 0) c_Live m_Live_check_owner G_Live_check_owner (hr.mono (by omega)) b_Live_check_owner .nil pass0 (pa_cons (pv 1) pa_nil)))
    (pss_cons (ps_if (PW.pt (pw_or (pt_not (pt_val (pe_callB (show CallR _ (.builtin "isinstance") (rIsi K) from call_isi) (by rfl) T.m_isinstance (by decide +kernel) (pa_cons (pv 2) (pa_cons (pe_bltn (v := .ty "str") (by rfl) T.m_str (by decide +kernel) rfl) pa_nil))))) (pw_or1 (pt_cmpR (show OpR _ (compareOp .NotIn) (rIn K true) from op_notIn_seq) (pv 2) (Rd.pe_fldK (K := K) rfl (Rd.pe_fldK (K := K) rfl (pv 0) rfl) rfl) (by rfl))))) (pss_one ps_never) pss_nil)
    (pss_cons (ps_if (pt_cmpR (show OpR _ (compareOp .In) (rIn K false) from op_in_seq) (pv 2) (pe_dget (Nat.lt_of_le_of_lt (Nat.add_le_add_left (show 1 ≤ 64 by decide) _) hr.units) (Rd.pe_fldK (K := K) rfl (Rd.pe_fldK (K := K) rfl (pv 0) rfl) rfl) (pv 1) (fun _ _ => rfl)) (by rfl)) (pss_one ps_never) pss_nil)
    (pss_cons (ps_setLc (i := 3) (own := [("name", 4), ("rights", 5)]) rfl sc_Live_grant.nd rfl rfl (sw_true rfl rfl rfl (by decide +kernel)) (Rd.pi_listK (K := K) rfl (pe_meth0 (Rd.pe_fldK (K := K) rfl (pv 0) rfl) c_Program m_Program_owners G_Program_owners (hr.mono (by omega)) b_Program_owners .nil pass0)) (blkOk_by (N := N_Live_grant) (sc := defScope s_Live_grant) (by decide +kernel)) (fun _ _ _ _ _ => (Rd.pg_tupK (K := K) (n := 2) rfl (by rfl) (pgs_cons (pg_name (i := 4) sc_Live_grant.nd rfl (Or.inl rfl)) (pgs_cons (pg_name (i := 5) sc_Live_grant.nd rfl (Or.inl rfl)) pgs_nil)))) (fun _ _ _ _ _ => pts_nil) (fun _ _ _ _ _ => (pe_tup (pa_cons (pv 4) (pa_cons (pe_op (show OpR _ (binaryOp .Add) (CatS.rCatS K) from CatS.op_catS) (pv 5) (pe_ifExp (pt_cmpR op_eq (pv 4) (pv 1) (nomark _)) (pe_lst (pa_cons (pv 2) pa_nil)) (pe_lst pa_nil))) pa_nil)))))
    (pss_one (ps_expr (pe_meth (pv 0) c_Live m_Live_lead G_Live_lead (hr.mono (by omega)) b_Live_lead .nil pass0 (pa_cons (pe_tup (pa_cons pe_str (pa_cons (pv 1) (pa_cons (pv 2) pa_nil)))) (pa_cons (pv 3) (pa_cons (pe_meth0 (Rd.pe_fldK (K := K) rfl (pv 0) rfl) c_Program m_Program_functions G_Program_functions (hr.mono (by omega)) b_Program_functions .nil pass0) pa_nil)))))))))), ?_⟩
  obtain ⟨dxl, p, xs, h1, h2, h3, h4, h5, h6, h7⟩ := id hv
  obtain ⟨W0, pdx, PL, PD, PB, kv1, kv2, s0, a1, a2, a3, a4, a5, a6, a7, a8, a9, ft⟩ := id h6
  obtain ⟨t, ht, htt⟩ := HeldE.find a8 ft.od hn
  walk_at "rd"
  refine Rd.methAt h1 rfl ?_
  walk_at "rd"
  refine ⟨l, pa, n, W, q, log, rfl, hC, hL, sW, hv, List.mem_map.mpr ⟨_, hn, rfl⟩, ?_⟩
  walk_at "rd"
  refine isiD (.str r) (show kitB "str" "str" = some true by decide +kernel) ?_
  walk_at "rd"
  refine Rd.brF rfl ?_
  walk_at "rd"
  refine Rd.fldAt h1 hL.c hL.n1 rfl ?_
  refine Rd.fldAt (sW _ _ a4) hC.c hC.n1 rfl ?_
  refine inStrT (.inl (.inl (sW _ _ (s0 _ _ a5)))) (Rd.bl (Rd.brF (by rw [if_pos rfl, decide_eq_true hrr]; rfl) ?_))
  walk_at "rd"
  refine dget ?_
  walk_at "rd"
  refine Rd.fldAt h1 hL.c hL.n1 rfl ?_
  refine Rd.fldAt (sW _ _ a4) hC.c hC.n2 rfl ?_
  walk_at "rd"
  refine ⟨PD, .ref t, rfl, (by rw [← ht]; exact DGet.k (k := .inr n) (sW _ _ a6)), ?_⟩
  refine inStrT (.inl (.inl (sW _ _ (s0 _ _ htt)))) (Rd.bl (Rd.brF (by rw [if_neg Bool.false_ne_true, decide_eq_false hrn]) ?_))
  walk_at "rd"
  refine Rd.fldAt h1 hL.c hL.n1 rfl ?_
  refine Rd.methAt (sW _ _ a4) rfl ?_
  walk_at "rd"
  refine ⟨p, W, q, rfl, hC, sW, h6, fun O W2 H2 n2 s2 g2 sW2 d2 => ?_⟩
  obtain ⟨_, ox, e0, hO, hOx⟩ := lst_inv d2
  cases e0
  refine Rd.l1 (sW2.seq hO) fun D hD => ?_
  refine Rd.byCL (xs := ox) (fun i H' => Coll K W2 W2 H2 D H' ((q.os.take i).map fun o => od (o.1, if o.1 = n then o.2 ++ [r] else o.2))) (Coll.nil sW2 hD) (fun i H' hi h => h.seen.seq hO) (fun i x H' hi h => ?_) (fun H3 h => ?_)
  · obtain ⟨W', its, b0, b1, b2, b3, b4, b5, b6⟩ := h
    obtain ⟨o, ho, hx⟩ := ds_get hOx hi
    obtain ⟨ta, la, rfl, hta, hla⟩ := own_inv (Dq.same b0 _ _ hx)
    have lo := (ft.oo o (List.mem_of_getElem? ho)).2.2.2
    refine turn2 (sqT_same b2 hta) rfl ?_
    walk_at "rd"
    refine Rd.eq_ rfl (Rd.bl ?_)
    refine iteL (fun _ _ z => ⟨_, rfl, z⟩) fun e H4 n4 s4 e4 => ?_
    refine CatS.at_ (s4.seq (b2.seq hla)) (.inl (.inl e4)) (fun p5 n5 => ?_) (by
      rw [List.length_map]
      by_cases c : (decide (V.str o.1 = V.str n)) = true
      · rw [if_pos c]; show o.2.length + 1 ≤ 1000; omega
      · rw [if_neg c]; show o.2.length + 0 ≤ 1000; omega)
    have s5 := same_upd (o := .lst (o.2.map V.str ++ if (decide (V.str o.1 = V.str n)) = true then [V.str r] else [])) n5
    have ez : (o.2.map V.str ++ if (decide (V.str o.1 = V.str n)) = true then [V.str r] else []) = (if o.1 = n then o.2 ++ [r] else o.2).map V.str := by
      by_cases c : o.1 = n
      · rw [if_pos c, if_pos (by rw [c]; exact decide_eq_true rfl), List.map_append]; rfl
      · rw [if_neg c, if_neg (by rw [decide_eq_false (fun z => c (by injection z))]; exact Bool.false_ne_true), List.append_nil]
    rw [ez] at s5 ⊢
    walk_at "rd"
    refine mkTs fun T6 H6 n6 s6 e6 => ?_
    obtain ⟨u1, u2, u3⟩ := newW Grow.refl s4 (b2.trans s4) n5 s5 upd_same
    obtain ⟨v1, v2, v3⟩ := newW u1 (s4.trans s5) u2 n6 s6 e6
    refine Coll.acc b0 b1 b3 b4 b5 b6 hD ((s4.trans s5).trans s6) v1 v2 ?_ (take_map ho) (take_len (by have := ft.o1; omega))
    exact .tup (.inl (.inl upd_same)) (.cons (.str _) (.cons (.lst (.inl (.inl (v3 _ _ upd_same))) (dqAll_strs _)) .nil))
  have h : Coll K W2 W2 H2 D H3 (q.os.map fun o => od (o.1, if o.1 = n then o.2 ++ [r] else o.2)) := by
    rw [dqAll_len hOx, List.length_map, List.take_length] at h
    exact h
  obtain ⟨W3, v3, g3, sW3, s3, d3⟩ := Coll.done hD h
  have eD : PyData.list (q.os.map fun o => od (o.1, if o.1 = n then o.2 ++ [r] else o.2)) = ownD (grantP q n r).os := by
    unfold ownD grantP
    rw [List.map_map]; rfl
  rw [eD] at d3
  have g03 : Grow W W3 H := g2.trans g3 (Same.alive s2)
  have s03 := s2.trans s3
  walk_at "rd"
  refine Rd.methAt (s03 _ _ h1) rfl ?_
  walk_at "rd"
  refine mkTs fun t7 H7 n7 s7 e7 => ?_
  obtain ⟨u1, u2, u3⟩ := newW g03 s03 sW3 n7 s7 e7
  walk_at "rd"
  refine Rd.fldAt ((s03.trans s7) _ _ h1) hL.c hL.n1 rfl ?_
  refine Rd.methAt ((s03.trans s7) _ _ (sW _ _ a4)) rfl ?_
  walk_at "rd"
  refine ⟨p, _, q, rfl, hC, u2, h6.same u1.s, fun F1 W8 H8 n8 s8 g8 sW8 d8 => ?_⟩
  have g08 := u1.trans g8 (Same.alive (s03.trans s7))
  have s08 := (s03.trans s7).trans s8
  walk_at "rd"
  refine ⟨l, pa, D, F1, _, W8, q, _, q.fs, log, .tuple [.str "grant", .str n, .str r], rfl, hC, hL, sW8, hv.keep g08 (fun o e => s08 _ _ e) (fun o e => s08 _ _ e), ?_, Dq.same (u3.trans g8.s) _ _ d3, d8, fits_grant ft hrr (fun o ho e => ?_), hl, Did.up hQ s08 g08⟩
  · exact .tup (.inl (.inl (g8.s _ _ upd_same))) (.cons (.str _) (.cons (.str _) (.cons (.str _) .nil)))
  · obtain ⟨o1, o2⟩ := o
    cases e
    rw [own_uniq ft.od ho hn]
    exact hrn
end

end Bs
set_option Elab.async false
set_option linter.all false
set_option maxRecDepth 100000
set_option maxHeartbeats 200000
/-! Live.revoke -/
namespace Bs
open PySem PySem.Spec PyProof.Rows L2 Gd Er
local macro_rules | `(tactic| walk_at "rdc") => `(tactic| (first
  | assumption | exact Or.inl ⟨by omega, by omega⟩ | exact Or.inr ⟨by omega, by omega⟩ | exact Or.inl ⟨by decide, by decide⟩ | exact Or.inr ⟨by decide, by decide⟩
  | (show (0 : Int) < _; omega) | (show (0 : Int) < _; decide) | decide | omega | exact ⟨by decide, by decide, by decide⟩ | exact ⟨by decide, by decide +kernel⟩ | decide +kernel))
local macro_rules | `(tactic| walk_at "rdh") => `(tactic| (first | assumption | exact upd_same))
local macro_rules | `(tactic| walk_at "rd1") => `(tactic| (first
  | (with_reducible refine Rd.var rfl ?_) | (with_reducible refine Rd.con ?_) | (with_reducible refine Rd.op ?_) | (with_reducible refine Rd.un ?_) | (with_reducible refine Rd.i0 ?_) | (with_reducible refine Rd.iu ?_)
  | (with_reducible refine Rd.nil ?_) | (with_reducible refine Rd.cons ?_) | (with_reducible refine Rd.cb ?_) | (with_reducible refine Rd.asg ?_) | (with_reducible refine Rd.name ?_) | (with_reducible refine Rd.sub ?_) | (with_reducible refine Rd.rev ?_) | (with_reducible refine Rd.drop ?_) | (with_reducible refine Rd.bm ?_) | (with_reducible refine Rd.par ?_) | (with_reducible refine Rd.p2 ?_) | (with_reducible refine Rd.sl ?_) | (with_reducible refine Rd.noPart ?_) | (with_reducible refine Rd.part ?_) | (with_reducible refine Rd.int_ ?_) | (with_reducible refine Rd.seq ?_)
  | (with_reducible refine Rd.ret ?_) | (with_reducible refine Rd.retN ?_) | (with_reducible refine Rd.nxt ?_) | (with_reducible refine Rd.tst ?_) | (with_reducible refine Rd.tb_ ?_) | (with_reducible refine Rd.tnot ?_)
  | (with_reducible refine Rd.tor ?_) | (with_reducible refine Rd.tand ?_) | (with_reducible refine Rd.ifs ?_) | (with_reducible refine Rd.ife ?_) | (with_reducible refine Rd.lst ?_) | (with_reducible refine Rd.tup ?_)
  | (with_reducible refine Rd.int1 ?_) | (with_reducible refine Rd.bl ?_) | (with_reducible refine Rd.call ?_)
  | (with_reducible refine Rd.mx ?_) | (with_reducible refine Rd.bits ?_) | (with_reducible refine Rd.forR ?_) | (with_reducible refine Rd.forL ?_) | (with_reducible refine Rd.lcR ?_) | (with_reducible refine Rd.lcL ?_) | (with_reducible refine Rd.lcT ?_) | (with_reducible refine Rd.chain ?_) | (with_reducible refine Rd.notv ?_) | (with_reducible refine Rd.forS ?_) | (with_reducible refine Rd.lcS ?_) | (with_reducible refine Rd.str_ ?_) | (with_reducible refine Rd.forE ?_) | (with_reducible refine Rd.lcI ?_) | (with_reducible refine Rd.tgt ?_) | (with_reducible refine Rd.gcons ?_) | (with_reducible refine Rd.gnil ?_) | (with_reducible refine Rd.fld ?_) | (with_reducible refine Rd.sfld ?_) | (with_reducible refine Rd.meth ?_) | (with_reducible refine Rd.forT ?_)
  | ((with_reducible refine' Rd.ixLT ?rh ?ra ?_); (case rh => walk_at "rdh"); (case ra => rfl))
  | ((with_reducible refine' Rd.setL ?rh ?ra ?_); (case rh => walk_at "rdh"); (case ra => rfl))
  | ((with_reducible refine Rd.ic ?rc ?_); (case rc => walk_at "rdc"))))
local macro_rules | `(tactic| walk_at "rd") => `(tactic| (repeat (walk_at "rd1")))


/-! ### Live.revoke -/
/-- a loop's turn to two names -/
theorem keepStrs {K : PySem.W.Frag} {tt : TT} {te : TE} {n : Nat} {ws : List Nat} {σ : L2.St} {H : Hp} {a D : Addr} {xs : List Str} {Qd : Hp → Prop} (p : Str → Bool) (ha : SqL K H a (xs.map V.str)) (hD : H D = none) (lx : xs.length < 1000)
    (w : ∀ x, wipe ((wipe σ ws).set n (some x)) ws = wipe σ ws)
    (ht : ∀ (x : Str) H' (R : Bool → Hp → Prop), x ∈ xs → R (p x) H' → tt ((wipe σ ws).set n (some (.str x))) H' R)
    (he : ∀ (x : Str) H' Q', Q' (.str x) H' → te ((wipe σ ws).set n (some (.str x))) H' Q')
    (q : ∀ H', Same H H' → H' D = some (.lst ((xs.filter p).map V.str)) → Qd H') : Rd.compL K a (gName n) tt te ws σ D Qd H := by
  refine Rd.byCL (xs := xs.map V.str) (fun j H' => Same H H' ∧ H' D = some (.lst (((xs.take j).filter p).map V.str))) ⟨same_upd hD, upd_same⟩ (fun j H' hj h => h.1.seq ha) (fun j x H' hj h => ?_) (fun H' h => ?_)
  · obtain ⟨s1, e1⟩ := h
    rw [List.getElem?_map] at hj
    obtain ⟨z, hz, rfl⟩ := Option.map_eq_some_iff.mp hj
    have tk : (xs.take (j + 1)).filter p = (xs.take j).filter p ++ (if p z = true then [z] else []) := by
      rw [List.take_add_one, hz, List.filter_append]
      show _ ++ List.filter p [z] = _
      cases c : p z with
      | true => rw [if_pos rfl, List.filter_cons_of_pos c]; rfl
      | false => rw [if_neg Bool.false_ne_true, List.filter_cons_of_neg (by rw [c]; exact Bool.false_ne_true)]; rfl
    refine Rd.turnIf (w _) (ht z H' _ (List.mem_of_getElem? hz) (Rd.br (fun c => ?_) fun c => ?_))
    · refine he z _ _ (Rd.acc e1 ?_ ⟨fun y u e => (upd_ne (ne_of_none e hD)).trans (s1 _ _ e), ?_⟩)
      · rw [List.length_map]
        have := List.length_filter_le p (xs.take j)
        rw [List.length_take] at this
        omega
      · rw [upd_same, tk, if_pos c, List.map_append]; rfl
    · refine ⟨s1, ?_⟩
      rw [tk, if_neg (by rw [c]; exact Bool.false_ne_true), List.append_nil]
      exact e1
  · obtain ⟨s1, e1⟩ := h
    rw [List.length_map, List.take_length] at e1
    exact q H' s1 e1
abbrev s_Live_revoke : Stmt := clsM (top 27) 4
abbrev N_Live_revoke : List Str := ["self", "owner", "right", "rows", "name", "rights", "one"]
theorem sc_Live_revoke : FnScope N_Live_revoke ["self", "owner", "right"] (defScope s_Live_revoke) := ⟨rfl, rfl, rfl, by decide +kernel, rfl, by decide +kernel, by decide +kernel⟩
def sp_revoke (K : PySem.W.Frag) (C L : Addr) : Sp := fun vs H Q _ => ∃ (l pa : Addr) (n r : Str) (rs : List Str) (W : Hp) (q : Parts) (log : List (PyData × Parts)), vs = [.ref l, .str n, .str r] ∧ PCls K C ∧ LCls K L ∧ Same W H ∧ LvAt K C L W H l pa q log ∧
  (n, rs) ∈ q.os ∧ r ∈ rs ∧ log.length < 900 ∧ Did K C L W H l pa (revokeP q n r) (log ++ [(.tuple [.str "revoke", .str n, .str r], q)]) Q
section
variable {P : Program} {w : World} {K : PySem.W.Frag} {mg : Str → Option Value} {base : Heap} {C L f f_k f_o f_f f_l : Addr} {fd fd_k fd_o fd_f fd_l : FuncData}
theorem ok_revoke (F : FnM K "revoke" "Live.revoke" s_Live_revoke f fd) (c_Live : Cls K L) (c_Program : Cls K C)
    (m_Live_check_owner : Meth K L "check_owner" f_k) (G_Live_check_owner : FnOk P w K mg base CX0 1 f_k fd_k ["self", "name"] (sp_chko K C L)) (b_Live_check_owner : Binds K fd_k ["self", "name"] [])
    (m_Program_owners : Meth K C "owners" f_o) (G_Program_owners : FnOk P w K mg base CX0 1 f_o fd_o ["self"] (sp_powners K C)) (b_Program_owners : Binds K fd_o ["self"] [])
    (m_Program_functions : Meth K C "functions" f_f) (G_Program_functions : FnOk P w K mg base CX0 15 f_f fd_f ["self"] (sp_pfunctions K C)) (b_Program_functions : Binds K fd_f ["self"] [])
    (m_Live_lead : Meth K L "lead" f_l) (G_Live_lead : FnOk P w K mg base CX0 18 f_l fd_l ["self", "deed", "owners", "functions"] (sp_lead K C L)) (b_Live_lead : Binds K fd_l ["self", "deed", "owners", "functions"] []) (T : TxtN mg) :
    FnOk P w K mg base CX0 19 f fd ["self", "owner", "right"] (sp_revoke K C L) := by
  refine F.ok sc_Live_revoke (fun vs H Q E h => ?_) (fun cdv A outer s H vs Q E hr h => ?_)
  · obtain ⟨l, pa, n, r, rs, W, q, log, rfl, _⟩ := h
    rfl
  obtain ⟨l, pa, n, r, rs, W, q, log, rfl, hC, hL, sW, hv, hn, hrn, hl, hQ⟩ := h
  refine ⟨_, PSs.nox (pss_cons (ps_expr (pe_meth (pv 0) c_Live m_Live_check_owner G_Live_check_owner (hr.mono (by omega)) b_Live_check_owner .nil pass0 (pa_cons (pv 1) pa_nil)))
    (pss_cons (ps_if (PW.pt (pw_or (pt_not (pt_val (pe_callB (show CallR _ (.builtin "isinstance") (rIsi K) from call_isi) (by rfl) T.m_isinstance (by decide +kernel) (pa_cons (pv 2) (pa_cons (pe_bltn (v := .ty "str") (by rfl) T.m_str (by decide +kernel) rfl) pa_nil))))) (pw_or1 (pt_cmpR (show OpR _ (compareOp .NotIn) (rIn K true) from op_notIn_seq) (pv 2) (pe_dget (Nat.lt_of_le_of_lt (Nat.add_le_add_left (show 1 ≤ 64 by decide) _) hr.units) (Rd.pe_fldK (K := K) rfl (Rd.pe_fldK (K := K) rfl (pv 0) rfl) rfl) (pv 1) (fun _ _ => rfl)) (by rfl))))) (pss_one ps_never) pss_nil)
    (pss_cons (ps_set (i := 3) sc_Live_revoke.nd rfl (by first | exact Or.inl rfl | exact Or.inr rfl) (pe_lst pa_nil))
    (pss_cons (ps_for PassesOwn.never rfl (Rd.pi_listK (K := K) rfl (pe_meth0 (Rd.pe_fldK (K := K) rfl (pv 0) rfl) c_Program m_Program_owners G_Program_owners (hr.mono (by omega)) b_Program_owners .nil pass0)) (Rd.pg_tupK (K := K) (n := 2) rfl (by rfl) (pgs_cons (pg_name (i := 4) sc_Live_revoke.nd rfl (by first | exact Or.inl rfl | exact Or.inr rfl)) (pgs_cons (pg_name (i := 5) sc_Live_revoke.nd rfl (by first | exact Or.inl rfl | exact Or.inr rfl)) pgs_nil))) (pss_one (ps_expr (pe_bm PySem.F.plainAttrs_list PySem.F.slot_list_append PySem.F.type_list_append mt_append (pv 3) (pa_cons (pe_tup (pa_cons (pv 4) (pa_cons (pe_lc (own := [("one", 6)]) (g := gName 6) rfl sc_Live_revoke.nd (Rd.pi_listK (K := K) rfl (pv 5)) (blkOk_by (N := N_Live_revoke) (sc := defScope s_Live_revoke) (by decide +kernel)) (fun _ _ _ _ _ => pg_name (i := 6) sc_Live_revoke.nd rfl (Or.inl rfl)) (fun _ _ _ _ _ => (pts_one (PW.pt (pw_or (pt_cmpR op_ne (pv 4) (pv 1) (nomark _)) (pw_or1 (pt_cmpR op_ne (pv 6) (pv 2) (nomark _))))))) (fun _ _ _ _ _ => (pv 6))) pa_nil))) pa_nil)))))
    (pss_one (ps_expr (pe_meth (pv 0) c_Live m_Live_lead G_Live_lead (hr.mono (by omega)) b_Live_lead .nil pass0 (pa_cons (pe_tup (pa_cons pe_str (pa_cons (pv 1) (pa_cons (pv 2) pa_nil)))) (pa_cons (pv 3) (pa_cons (pe_meth0 (Rd.pe_fldK (K := K) rfl (pv 0) rfl) c_Program m_Program_functions G_Program_functions (hr.mono (by omega)) b_Program_functions .nil pass0) pa_nil)))))))))), ?_⟩
  obtain ⟨dxl, p, xs, h1, h2, h3, h4, h5, h6, h7⟩ := id hv
  obtain ⟨W0, pdx, PL, PD, PB, kv1, kv2, s0, a1, a2, a3, a4, a5, a6, a7, a8, a9, ft⟩ := id h6
  obtain ⟨t, ht, htt⟩ := HeldE.find a8 ft.od hn
  walk_at "rd"
  refine Rd.methAt h1 rfl ?_
  walk_at "rd"
  refine ⟨l, pa, n, W, q, log, rfl, hC, hL, sW, hv, List.mem_map.mpr ⟨_, hn, rfl⟩, ?_⟩
  walk_at "rd"
  refine isiD (.str r) (show kitB "str" "str" = some true by decide +kernel) ?_
  walk_at "rd"
  refine Rd.brF rfl ?_
  walk_at "rd"
  refine dget ?_
  walk_at "rd"
  refine Rd.fldAt h1 hL.c hL.n1 rfl ?_
  refine Rd.fldAt (sW _ _ a4) hC.c hC.n2 rfl ?_
  walk_at "rd"
  refine ⟨PD, .ref t, rfl, (by rw [← ht]; exact DGet.k (k := .inr n) (sW _ _ a6)), ?_⟩
  refine inStrT (.inl (.inl (sW _ _ (s0 _ _ htt)))) (Rd.bl (Rd.brF (by rw [if_pos rfl, decide_eq_true hrn]; rfl) ?_))
  walk_at "rd"
  refine mkLs fun R H1 n1 s1 e1 => ?_
  walk_at "rd"
  refine Rd.fldAt (s1 _ _ h1) hL.c hL.n1 rfl ?_
  refine Rd.methAt (s1 _ _ (sW _ _ a4)) rfl ?_
  walk_at "rd"
  refine ⟨p, W, q, rfl, hC, sW.trans s1, h6, fun O W2 H2 n2 s2 g2 sW2 d2 => ?_⟩
  obtain ⟨_, ox, e0, hO, hOx⟩ := lst_inv d2
  cases e0
  have WR : W R = none := same_none sW n1
  refine Rd.l1 (sW2.seq hO) ?_
  refine Rd.byL (xs := ox) (fun i σ H' => ∃ o4 o5, σ = [some (.ref l), some (.str n), some (.str r), some (.ref R), o4, o5, none] ∧ Coll K W2 W H R H' ((q.os.take i).map fun o => od (o.1, o.2.filter fun x => !(decide (o.1 = n) && decide (x = r)))))
    ⟨none, none, rfl, W2, [], Same.refl W2, g2.pre s1, sW2, g2.n R _ e1 WR, s1.trans s2, s2 _ _ e1, .nil⟩ (fun i σ H' hi h => ?_) (fun i x σ H' hi h => ?_) (fun σ H3 h => ?_)
  · obtain ⟨_, _, _, h⟩ := h
    exact h.seen.seq hO
  · obtain ⟨o4, o5, rfl, W', its, b0, b1, b2, b3, b4, b5, b6⟩ := h
    obtain ⟨o, ho, hx⟩ := ds_get hOx hi
    obtain ⟨ta, la, rfl, hta, hla⟩ := own_inv (Dq.same b0 _ _ hx)
    have lo := (ft.oo o (List.mem_of_getElem? ho)).2.2.2
    refine Rd.tgt (Rd.tgAt (sqT_same b2 hta) rfl ?_)
    walk_at "rd"
    refine Rd.app b5 ?_
    walk_at "rd"
    refine Rd.l1 (b2.seq hla) fun D2 hD2 => ?_
    refine keepStrs (fun x => !(decide (o.1 = n) && decide (x = r))) (b2.seq hla) hD2 (by omega) (fun x => rfl) (fun x H5 R5 hx5 hR5 => ?_) (fun x H5 Q5 h5 => ⟨_, rfl, h5⟩) fun H5 s5 e5 => ?_
    · walk_at "rd"
      refine Rd.ne_ rfl (Rd.bl ?_)
      by_cases c : o.1 = n
      · refine Rd.brF (by rw [c]; exact notSame rfl) ?_
        walk_at "rd"
        refine Rd.ne_ rfl (Rd.bl ?_)
        rw [decide_eq_true c] at hR5
        by_cases c2 : x = r
        · rw [decide_eq_true c2] at hR5
          rw [decide_eq_true (by rw [c2])]
          exact hR5
        · rw [decide_eq_false c2] at hR5
          rw [decide_eq_false (fun z => c2 (by injection z))]
          exact hR5
      · refine Rd.brT (by rw [decide_eq_false (fun z => c (by injection z))]; rfl) ?_
        rw [decide_eq_false c] at hR5
        exact hR5
    walk_at "rd"
    refine mkTs fun T6 H6 n6 s6 e6 => ?_
    walk_at "rd"
    obtain ⟨u1, u2, u3⟩ := newW (p := D2) Grow.refl (Same.refl H') b2 hD2 s5 e5
    obtain ⟨v1, v2, v3⟩ := newW u1 s5 u2 n6 s6 e6
    obtain ⟨z1, z2⟩ := Coll.put (ds' := (q.os.take (i + 1)).map fun o => od (o.1, o.2.filter fun x => !(decide (o.1 = n) && decide (x = r)))) (y := .ref T6) b0 b1 b3 b4 b5 b6 n1 (s5.trans s6) v1 v2 (.tup (.inl (.inl upd_same)) (.cons (.str _) (.cons (.lst (.inl (.inl (v3 _ _ upd_same))) (dqAll_strs _)) .nil))) (take_map ho)
    refine Rd.appTo z1 (by rw [dqAll_len b6]; exact take_len (by have := ft.o1; omega)) ?_
    walk_at "rd"
    exact ⟨_, _, rfl, z2⟩
  obtain ⟨o4, o5, rfl, h⟩ := h
  have h : Coll K W2 W H R H3 (q.os.map fun o => od (o.1, o.2.filter fun x => !(decide (o.1 = n) && decide (x = r)))) := by
    rw [dqAll_len hOx, List.length_map, List.take_length] at h
    exact h
  obtain ⟨W3, v3, g3, sW3, s3, d3⟩ := Coll.done n1 h
  have eD : PyData.list (q.os.map fun o => od (o.1, o.2.filter fun x => !(decide (o.1 = n) && decide (x = r)))) = ownD (revokeP q n r).os := by
    unfold ownD revokeP
    rw [List.map_map]; rfl
  rw [eD] at d3
  walk_at "rd"
  refine Rd.methAt (s3 _ _ h1) rfl ?_
  walk_at "rd"
  refine mkTs fun t7 H7 n7 s7 e7 => ?_
  obtain ⟨u1, u2, u3⟩ := newW g3 s3 sW3 n7 s7 e7
  walk_at "rd"
  refine Rd.fldAt ((s3.trans s7) _ _ h1) hL.c hL.n1 rfl ?_
  refine Rd.methAt ((s3.trans s7) _ _ (sW _ _ a4)) rfl ?_
  walk_at "rd"
  refine ⟨p, _, q, rfl, hC, u2, h6.same u1.s, fun F1 W8 H8 n8 s8 g8 sW8 d8 => ?_⟩
  have g08 := u1.trans g8 (Same.alive (s3.trans s7))
  have s08 := (s3.trans s7).trans s8
  walk_at "rd"
  refine ⟨l, pa, R, F1, _, W8, q, _, q.fs, log, .tuple [.str "revoke", .str n, .str r], rfl, hC, hL, sW8, hv.keep g08 (fun o e => s08 _ _ e) (fun o e => s08 _ _ e), ?_, Dq.same (u3.trans g8.s) _ _ d3, d8, fits_revoke (n := n) (r := r) ft, hl, Did.up hQ s08 g08⟩
  exact .tup (.inl (.inl (g8.s _ _ upd_same))) (.cons (.str _) (.cons (.str _) (.cons (.str _) .nil)))
end

end Bs
set_option Elab.async false
set_option linter.all false
set_option maxRecDepth 100000
set_option maxHeartbeats 200000
/-! Live.rewrite -/
namespace Bs
open PySem PySem.Spec PyProof.Rows L2 Gd Er
local macro_rules | `(tactic| walk_at "rdc") => `(tactic| (first
  | assumption | exact Or.inl ⟨by omega, by omega⟩ | exact Or.inr ⟨by omega, by omega⟩ | exact Or.inl ⟨by decide, by decide⟩ | exact Or.inr ⟨by decide, by decide⟩
  | (show (0 : Int) < _; omega) | (show (0 : Int) < _; decide) | decide | omega | exact ⟨by decide, by decide, by decide⟩ | exact ⟨by decide, by decide +kernel⟩ | decide +kernel))
local macro_rules | `(tactic| walk_at "rdh") => `(tactic| (first | assumption | exact upd_same))
local macro_rules | `(tactic| walk_at "rd1") => `(tactic| (first
  | (with_reducible refine Rd.var rfl ?_) | (with_reducible refine Rd.con ?_) | (with_reducible refine Rd.op ?_) | (with_reducible refine Rd.un ?_) | (with_reducible refine Rd.i0 ?_) | (with_reducible refine Rd.iu ?_)
  | (with_reducible refine Rd.nil ?_) | (with_reducible refine Rd.cons ?_) | (with_reducible refine Rd.cb ?_) | (with_reducible refine Rd.asg ?_) | (with_reducible refine Rd.name ?_) | (with_reducible refine Rd.sub ?_) | (with_reducible refine Rd.rev ?_) | (with_reducible refine Rd.drop ?_) | (with_reducible refine Rd.bm ?_) | (with_reducible refine Rd.par ?_) | (with_reducible refine Rd.p2 ?_) | (with_reducible refine Rd.sl ?_) | (with_reducible refine Rd.noPart ?_) | (with_reducible refine Rd.part ?_) | (with_reducible refine Rd.int_ ?_) | (with_reducible refine Rd.seq ?_)
  | (with_reducible refine Rd.ret ?_) | (with_reducible refine Rd.retN ?_) | (with_reducible refine Rd.nxt ?_) | (with_reducible refine Rd.tst ?_) | (with_reducible refine Rd.tb_ ?_) | (with_reducible refine Rd.tnot ?_)
  | (with_reducible refine Rd.tor ?_) | (with_reducible refine Rd.tand ?_) | (with_reducible refine Rd.ifs ?_) | (with_reducible refine Rd.ife ?_) | (with_reducible refine Rd.lst ?_) | (with_reducible refine Rd.tup ?_)
  | (with_reducible refine Rd.int1 ?_) | (with_reducible refine Rd.bl ?_) | (with_reducible refine Rd.call ?_)
  | (with_reducible refine Rd.mx ?_) | (with_reducible refine Rd.bits ?_) | (with_reducible refine Rd.forR ?_) | (with_reducible refine Rd.forL ?_) | (with_reducible refine Rd.lcR ?_) | (with_reducible refine Rd.lcL ?_) | (with_reducible refine Rd.lcT ?_) | (with_reducible refine Rd.chain ?_) | (with_reducible refine Rd.notv ?_) | (with_reducible refine Rd.forS ?_) | (with_reducible refine Rd.lcS ?_) | (with_reducible refine Rd.str_ ?_) | (with_reducible refine Rd.forE ?_) | (with_reducible refine Rd.lcI ?_) | (with_reducible refine Rd.tgt ?_) | (with_reducible refine Rd.gcons ?_) | (with_reducible refine Rd.gnil ?_) | (with_reducible refine Rd.fld ?_) | (with_reducible refine Rd.sfld ?_) | (with_reducible refine Rd.meth ?_) | (with_reducible refine Rd.forT ?_)
  | ((with_reducible refine' Rd.ixLT ?rh ?ra ?_); (case rh => walk_at "rdh"); (case ra => rfl))
  | ((with_reducible refine' Rd.setL ?rh ?ra ?_); (case rh => walk_at "rdh"); (case ra => rfl))
  | ((with_reducible refine Rd.ic ?rc ?_); (case rc => walk_at "rdc"))))
local macro_rules | `(tactic| walk_at "rd") => `(tactic| (repeat (walk_at "rd1")))


/-! ### Live.rewrite -/
theorem BodE.find {K : PySem.W.Frag} {W : Hp} {n : Str} : ∀ {kvs : List (Key × V)} {fs : List (Str × Str × Bdy)}, BodE K W kvs fs → n ∈ fs.map (·.1) → (valV kvs (.inr n)).isSome = true
  | _, _, .nil, m => by cases m
  | _, _, .cons (n := n') h d r, m => by
    by_cases e : n' = n
    · subst e
      rw [valV_pos rfl]; rfl
    · rw [valV_neg (fun z => e (by injection z))]
      rw [List.map_cons, List.mem_cons] at m
      exact BodE.find r (m.resolve_left (fun z => e z.symm))
theorem BodE.keys {K : PySem.W.Frag} {W : Hp} : ∀ {kvs : List (Key × V)} {fs : List (Str × Str × Bdy)}, BodE K W kvs fs → kvs.map (fun kv => kV kv.1) = (fs.map (·.1)).map V.str
  | _, _, .nil => rfl
  | _, _, .cons h d r => by rw [List.map_cons, List.map_cons, List.map_cons, BodE.keys r]; rfl
abbrev s_Live_rewrite : Stmt := clsM (top 27) 5
abbrev N_Live_rewrite : List Str := ["self", "name", "body", "rows", "one", "owner", "old"]
theorem sc_Live_rewrite : FnScope N_Live_rewrite ["self", "name", "body"] (defScope s_Live_rewrite) := ⟨rfl, rfl, rfl, by decide +kernel, rfl, by decide +kernel, by decide +kernel⟩
def sp_rewrite (K : PySem.W.Frag) (C L : Addr) : Sp := fun vs H Q _ => ∃ (l pa : Addr) (n : Str) (v : V) (b : Bdy) (W : Hp) (q : Parts) (log : List (PyData × Parts)), vs = [.ref l, .str n, v] ∧ PCls K C ∧ LCls K L ∧ Same W H ∧ LvAt K C L W H l pa q log ∧
  n ∈ q.fs.map (·.1) ∧ Dq K W v b.d ∧ b.ok q.rs (q.fs.map (·.1)) false ∧ b.dp ≤ 6 ∧ b.wide 500 ∧ log.length < 900 ∧ Did K C L W H l pa (rewriteP q n b) (log ++ [(.tuple [.str "rewrite", .str n, b.d], q)]) Q
section
variable {P : Program} {w : World} {K : PySem.W.Frag} {mg : Str → Option Value} {base : Heap} {C L f f_b f_c f_o f_f f_l : Addr} {fd fd_b fd_c fd_o fd_f fd_l : FuncData}
theorem ok_rewrite (F : FnM K "rewrite" "Live.rewrite" s_Live_rewrite f fd) (c_Live : Cls K L) (c_Program : Cls K C)
    (G_is_body : FnOk P w K mg base CX0 14 f_b fd_b ["value", "rights", "names", "marked"] (sp_isbody K 6)) (g_is_body : mg "is_body" = some (.ref f_b)) (k_is_body : PySem.W.keepIn K (.ref f_b) = true) (b_is_body : Binds K fd_b ["value", "rights", "names", "marked"] [])
    (G_copied_body : FnOk P w K mg base CX0 14 f_c fd_c ["body"] (sp_cbody K 6)) (g_copied_body : mg "copied_body" = some (.ref f_c)) (k_copied_body : PySem.W.keepIn K (.ref f_c) = true) (b_copied_body : Binds K fd_c ["body"] [])
    (m_Program_owners : Meth K C "owners" f_o) (G_Program_owners : FnOk P w K mg base CX0 1 f_o fd_o ["self"] (sp_powners K C)) (b_Program_owners : Binds K fd_o ["self"] [])
    (m_Program_functions : Meth K C "functions" f_f) (G_Program_functions : FnOk P w K mg base CX0 15 f_f fd_f ["self"] (sp_pfunctions K C)) (b_Program_functions : Binds K fd_f ["self"] [])
    (m_Live_lead : Meth K L "lead" f_l) (G_Live_lead : FnOk P w K mg base CX0 18 f_l fd_l ["self", "deed", "owners", "functions"] (sp_lead K C L)) (b_Live_lead : Binds K fd_l ["self", "deed", "owners", "functions"] []) (T : TxtN mg) :
    FnOk P w K mg base CX0 19 f fd ["self", "name", "body"] (sp_rewrite K C L) := by
  refine F.ok sc_Live_rewrite (fun vs H Q E h => ?_) (fun cdv A outer s H vs Q E hr h => ?_)
  · obtain ⟨l, pa, n, v, b, W, q, log, rfl, _⟩ := h
    rfl
  obtain ⟨l, pa, n, v, b, W, q, log, rfl, hC, hL, sW, hv, hn, hb, hok, hdp, hwd, hl, hQ⟩ := h
  refine ⟨_, PSs.nox (pss_cons (ps_if (PW.pt (pw_or (pt_not (pt_val (pe_callB (show CallR _ (.builtin "isinstance") (rIsi K) from call_isi) (by rfl) T.m_isinstance (by decide +kernel) (pa_cons (pv 1) (pa_cons (pe_bltn (v := .ty "str") (by rfl) T.m_str (by decide +kernel) rfl) pa_nil))))) (pw_or1 (pt_cmp (pc_dnotin (Nat.lt_of_le_of_lt (Nat.add_le_add_left (show 1 ≤ 64 by decide) _) hr.units) (pv 1) (Rd.pe_fldK (K := K) rfl (Rd.pe_fldK (K := K) rfl (pv 0) rfl) rfl)))))) (pss_one ps_never) pss_nil)
    (pss_cons (ps_if (pt_not (pt_val (pe_call G_is_body (hr.mono (by omega)) rfl g_is_body k_is_body b_is_body .nil pass0 (pa_cons (pv 2) (pa_cons (pe_callTy (show CallR _ (.type "list") (Rd.rListOf K) from Rd.c_listOf) (by rfl) T.m_list (by decide +kernel) (pa_cons (Rd.pe_fldK (K := K) rfl (Rd.pe_fldK (K := K) rfl (pv 0) rfl) rfl) pa_nil)) (pa_cons (pe_callTy (Rd.c_listD rfl) (by rfl) T.m_list (by decide +kernel) (pa_cons (Rd.pe_fldK (K := K) rfl (Rd.pe_fldK (K := K) rfl (pv 0) rfl) rfl) pa_nil)) (pa_cons pe_bl pa_nil))))))) (pss_one ps_never) pss_nil)
    (pss_cons (ps_set (i := 3) sc_Live_rewrite.nd rfl (by first | exact Or.inl rfl | exact Or.inr rfl) (pe_lst pa_nil))
    (pss_cons (ps_for PassesOwn.never rfl (Rd.pi_listK (K := K) rfl (pe_meth0 (Rd.pe_fldK (K := K) rfl (pv 0) rfl) c_Program m_Program_functions G_Program_functions (hr.mono (by omega)) b_Program_functions .nil pass0)) (Rd.pg_tupK (K := K) (n := 3) rfl (by rfl) (pgs_cons (pg_name (i := 4) sc_Live_rewrite.nd rfl (by first | exact Or.inl rfl | exact Or.inr rfl)) (pgs_cons (pg_name (i := 5) sc_Live_rewrite.nd rfl (by first | exact Or.inl rfl | exact Or.inr rfl)) (pgs_cons (pg_name (i := 6) sc_Live_rewrite.nd rfl (by first | exact Or.inl rfl | exact Or.inr rfl)) pgs_nil)))) (pss_one (ps_expr (pe_bm PySem.F.plainAttrs_list PySem.F.slot_list_append PySem.F.type_list_append mt_append (pv 3) (pa_cons (pe_tup (pa_cons (pv 4) (pa_cons (pv 5) (pa_cons (pe_ifExp (pt_cmpR op_eq (pv 4) (pv 1) (nomark _)) (pe_call G_copied_body (hr.mono (by omega)) rfl g_copied_body k_copied_body b_copied_body .nil pass0 (pa_cons (pv 2) pa_nil)) (pv 6)) pa_nil)))) pa_nil)))))
    (pss_one (ps_expr (pe_meth (pv 0) c_Live m_Live_lead G_Live_lead (hr.mono (by omega)) b_Live_lead .nil pass0 (pa_cons (pe_tup (pa_cons pe_str (pa_cons (pv 1) (pa_cons (pe_call G_copied_body (hr.mono (by omega)) rfl g_copied_body k_copied_body b_copied_body .nil pass0 (pa_cons (pv 2) pa_nil)) pa_nil)))) (pa_cons (pe_meth0 (Rd.pe_fldK (K := K) rfl (pv 0) rfl) c_Program m_Program_owners G_Program_owners (hr.mono (by omega)) b_Program_owners .nil pass0) (pa_cons (pv 3) pa_nil)))))))))), ?_⟩
  obtain ⟨dxl, p, xs, h1, h2, h3, h4, h5, h6, h7⟩ := id hv
  obtain ⟨W0, pdx, PL, PD, PB, kv1, kv2, s0, a1, a2, a3, a4, a5, a6, a7, a8, a9, ft⟩ := id h6
  obtain ⟨w1, w2⟩ := bdy_wide hwd
  walk_at "rd"
  refine isiD (.str n) (show kitB "str" "str" = some true by decide +kernel) ?_
  walk_at "rd"
  refine Rd.brF rfl ?_
  refine Rd.tb_ (dnin ?_)
  walk_at "rd"
  refine Rd.fldAt h1 hL.c hL.n1 rfl ?_
  refine Rd.fldAt (sW _ _ a4) hC.c hC.n3 rfl ?_
  refine ⟨PB, _, rfl, DGet.k (k := .inr n) (sW _ _ a7), ?_⟩
  rw [BodE.find a9 hn]
  refine Rd.bl (Rd.brF rfl ?_)
  walk_at "rd"
  refine Rd.fldAt h1 hL.c hL.n1 rfl ?_
  refine Rd.fldAt (sW _ _ a4) hC.c hC.n1 rfl ?_
  walk_at "rd"
  refine ⟨PL, _, rfl, .inr (.inl (.inl (sW _ _ (s0 _ _ a5)))), fun j1 m1 => ?_⟩
  have t1 := same_upd (o := HO.lst (q.rs.map V.str)) m1
  walk_at "rd"
  refine Rd.fldAt (t1 _ _ h1) hL.c hL.n1 rfl ?_
  refine Rd.fldAt (t1 _ _ (sW _ _ a4)) hC.c hC.n3 rfl ?_
  walk_at "rd"
  refine ⟨PB, _, rfl, .inl (t1 _ _ (sW _ _ a7)), fun j2 m2 => ?_⟩
  rw [BodE.keys a9]
  have t2 := same_upd (o := HO.lst ((q.fs.map (·.1)).map V.str)) m2
  walk_at "rd"
  refine ⟨v, j1, j2, false, b, q.rs, q.fs.map (·.1), rfl, Dq.same ((sW.trans t1).trans t2) _ _ hb, .inl (.inl (t2 _ _ upd_same)), .inl (.inl upd_same), hok, hdp, fun H1 t3 => ?_⟩
  have t03 := (t1.trans t2).trans t3
  walk_at "rd"
  refine Rd.brF rfl ?_
  walk_at "rd"
  refine mkLs fun R H2 n2 s2 e2 => ?_
  walk_at "rd"
  refine Rd.fldAt ((t03.trans s2) _ _ h1) hL.c hL.n1 rfl ?_
  refine Rd.methAt ((t03.trans s2) _ _ (sW _ _ a4)) rfl ?_
  walk_at "rd"
  refine ⟨p, W, q, rfl, hC, (sW.trans t03).trans s2, h6, fun O W2 H3 n3 s3 g2 sW2 d2 => ?_⟩
  obtain ⟨_, ox, e0, hO, hOx⟩ := lst_inv d2
  cases e0
  have WR : W R = none := same_none (sW.trans t03) n2
  refine Rd.l1 (sW2.seq hO) ?_
  refine Rd.byL (xs := ox) (fun i σ H' => ∃ o4 o5 o6, σ = [some (.ref l), some (.str n), some v, some (.ref R), o4, o5, o6] ∧ Coll K W2 W H1 R H' ((q.fs.take i).map fun f => fd3 (f.1, f.2.1, if f.1 = n then b else f.2.2)))
    ⟨none, none, none, rfl, W2, [], Same.refl W2, g2.pre s2, sW2, g2.n R _ e2 WR, s2.trans s3, s3 _ _ e2, .nil⟩ (fun i σ H' hi h => ?_) (fun i x σ H' hi h => ?_) (fun σ H4 h => ?_)
  · obtain ⟨_, _, _, _, h⟩ := h
    exact h.seen.seq hO
  · obtain ⟨o4, o5, o6, rfl, W', its, b0, b1, b2, b3, b4, b5, b6⟩ := h
    obtain ⟨g, hg, hx⟩ := ds_get hOx hi
    obtain ⟨ta, y, rfl, hta, hy⟩ := fun_inv (Dq.same b0 _ _ hx)
    refine Rd.tgt (Rd.tgAt (sqT_same b2 hta) rfl ?_)
    walk_at "rd"
    refine Rd.app b5 ?_
    walk_at "rd"
    refine Rd.eq_ rfl (Rd.bl ?_)
    by_cases c : g.1 = n
    · refine Rd.brT (by rw [c]; exact decide_eq_true rfl) ?_
      walk_at "rd"
      refine ⟨v, W', b, rfl, b2, Dq.same (g2.s.trans b0) _ _ hb, hdp, w1, w2, fun T5 W5 H5 r1 r2 r3 r4 r5 => ?_⟩
      walk_at "rd"
      refine mkTs fun T6 H6 n6 s6 e6 => ?_
      walk_at "rd"
      obtain ⟨v1, v2, v3⟩ := newW r2 r1 r3 n6 s6 e6
      obtain ⟨z1, z2⟩ := Coll.put (ds' := (q.fs.take (i + 1)).map fun f => fd3 (f.1, f.2.1, if f.1 = n then b else f.2.2)) (y := .ref T6) b0 b1 b3 b4 b5 b6 n2 (r1.trans s6) v1 v2 (.tup (.inl (.inl upd_same)) (.cons (.str _) (.cons (.str _) (.cons (Dq.same v3 _ _ r4) .nil)))) (by rw [take_map hg, if_pos c]; rfl)
      refine Rd.appTo z1 (by rw [dqAll_len b6]; exact take_len (by have := ft.f1; omega)) ?_
      walk_at "rd"
      exact ⟨_, _, _, rfl, z2⟩
    · refine Rd.brF (decide_eq_false fun z => c (by injection z)) ?_
      walk_at "rd"
      refine mkTs fun T6 H6 n6 s6 e6 => ?_
      walk_at "rd"
      obtain ⟨v1, v2, v3⟩ := newW Grow.refl (Same.refl H') b2 n6 s6 e6
      obtain ⟨z1, z2⟩ := Coll.put (ds' := (q.fs.take (i + 1)).map fun f => fd3 (f.1, f.2.1, if f.1 = n then b else f.2.2)) (y := .ref T6) b0 b1 b3 b4 b5 b6 n2 s6 v1 v2 (.tup (.inl (.inl upd_same)) (.cons (.str _) (.cons (.str _) (.cons (Dq.same v3 _ _ hy) .nil)))) (by rw [take_map hg, if_neg c]; rfl)
      refine Rd.appTo z1 (by rw [dqAll_len b6]; exact take_len (by have := ft.f1; omega)) ?_
      walk_at "rd"
      exact ⟨_, _, _, rfl, z2⟩
  obtain ⟨o4, o5, o6, rfl, h⟩ := h
  have h : Coll K W2 W H1 R H4 (q.fs.map fun f => fd3 (f.1, f.2.1, if f.1 = n then b else f.2.2)) := by
    rw [dqAll_len hOx, List.length_map, List.take_length] at h
    exact h
  obtain ⟨W3, v3, g3, sW3, s4, d3⟩ := Coll.done n2 h
  have eD : PyData.list (q.fs.map fun f => fd3 (f.1, f.2.1, if f.1 = n then b else f.2.2)) = funD (rewriteP q n b).fs := by
    unfold funD rewriteP
    rw [List.map_map]; rfl
  rw [eD] at d3
  have t04 := t03.trans s4
  have g03 : Grow W W3 H := g3.pre t03
  walk_at "rd"
  refine Rd.methAt (t04 _ _ h1) rfl ?_
  walk_at "rd"
  refine ⟨v, W3, b, rfl, sW3, Dq.same g3.s _ _ hb, hdp, w1, w2, fun T5 W5 H5 r1 r2 r3 r4 r5 => ?_⟩
  walk_at "rd"
  refine mkTs fun t7 H7 n7 s7 e7 => ?_
  have g05 := g03.trans r2 (Same.alive t04)
  have t05 := t04.trans r1
  obtain ⟨u1, u2, u3⟩ := newW g05 t05 r3 n7 s7 e7
  walk_at "rd"
  refine Rd.fldAt ((t05.trans s7) _ _ h1) hL.c hL.n1 rfl ?_
  refine Rd.methAt ((t05.trans s7) _ _ (sW _ _ a4)) rfl ?_
  walk_at "rd"
  refine ⟨p, _, q, rfl, hC, u2, h6.same u1.s, fun F1 W8 H8 n8 s8 g8 sW8 d8 => ?_⟩
  have g08 := u1.trans g8 (Same.alive (t05.trans s7))
  have s08 := (t05.trans s7).trans s8
  walk_at "rd"
  refine ⟨l, pa, F1, R, _, W8, q, q.os, _, log, .tuple [.str "rewrite", .str n, b.d], rfl, hC, hL, sW8, hv.keep g08 (fun o e => s08 _ _ e) (fun o e => s08 _ _ e), ?_, d8, Dq.same ((r2.s.trans u3).trans g8.s) _ _ d3, fits_rewrite (n := n) ft hok hdp hwd, hl, Did.up hQ s08 g08⟩
  exact .tup (.inl (.inl (g8.s _ _ upd_same))) (.cons (.str _) (.cons (.str _) (.cons (Dq.same (u3.trans g8.s) _ _ r4) .nil)))
end

end Bs
set_option Elab.async false
set_option linter.all false
set_option maxRecDepth 100000
set_option maxHeartbeats 200000
/-! Live.log, copy, == -/
namespace Bs
open PySem PySem.Spec PyProof.Rows L2 Gd Er
local macro_rules | `(tactic| walk_at "rdc") => `(tactic| (first
  | assumption | exact Or.inl ⟨by omega, by omega⟩ | exact Or.inr ⟨by omega, by omega⟩ | exact Or.inl ⟨by decide, by decide⟩ | exact Or.inr ⟨by decide, by decide⟩
  | (show (0 : Int) < _; omega) | (show (0 : Int) < _; decide) | decide | omega | exact ⟨by decide, by decide, by decide⟩ | exact ⟨by decide, by decide +kernel⟩ | decide +kernel))
local macro_rules | `(tactic| walk_at "rdh") => `(tactic| (first | assumption | exact upd_same))
local macro_rules | `(tactic| walk_at "rd1") => `(tactic| (first
  | (with_reducible refine Rd.var rfl ?_) | (with_reducible refine Rd.con ?_) | (with_reducible refine Rd.op ?_) | (with_reducible refine Rd.un ?_) | (with_reducible refine Rd.i0 ?_) | (with_reducible refine Rd.iu ?_)
  | (with_reducible refine Rd.nil ?_) | (with_reducible refine Rd.cons ?_) | (with_reducible refine Rd.cb ?_) | (with_reducible refine Rd.asg ?_) | (with_reducible refine Rd.name ?_) | (with_reducible refine Rd.sub ?_) | (with_reducible refine Rd.rev ?_) | (with_reducible refine Rd.drop ?_) | (with_reducible refine Rd.bm ?_) | (with_reducible refine Rd.par ?_) | (with_reducible refine Rd.p2 ?_) | (with_reducible refine Rd.sl ?_) | (with_reducible refine Rd.noPart ?_) | (with_reducible refine Rd.part ?_) | (with_reducible refine Rd.int_ ?_) | (with_reducible refine Rd.seq ?_)
  | (with_reducible refine Rd.ret ?_) | (with_reducible refine Rd.retN ?_) | (with_reducible refine Rd.nxt ?_) | (with_reducible refine Rd.tst ?_) | (with_reducible refine Rd.tb_ ?_) | (with_reducible refine Rd.tnot ?_)
  | (with_reducible refine Rd.tor ?_) | (with_reducible refine Rd.tand ?_) | (with_reducible refine Rd.ifs ?_) | (with_reducible refine Rd.ife ?_) | (with_reducible refine Rd.lst ?_) | (with_reducible refine Rd.tup ?_)
  | (with_reducible refine Rd.int1 ?_) | (with_reducible refine Rd.bl ?_) | (with_reducible refine Rd.call ?_)
  | (with_reducible refine Rd.mx ?_) | (with_reducible refine Rd.bits ?_) | (with_reducible refine Rd.forR ?_) | (with_reducible refine Rd.forL ?_) | (with_reducible refine Rd.lcR ?_) | (with_reducible refine Rd.lcL ?_) | (with_reducible refine Rd.lcT ?_) | (with_reducible refine Rd.chain ?_) | (with_reducible refine Rd.notv ?_) | (with_reducible refine Rd.forS ?_) | (with_reducible refine Rd.lcS ?_) | (with_reducible refine Rd.str_ ?_) | (with_reducible refine Rd.forE ?_) | (with_reducible refine Rd.lcI ?_) | (with_reducible refine Rd.tgt ?_) | (with_reducible refine Rd.gcons ?_) | (with_reducible refine Rd.gnil ?_) | (with_reducible refine Rd.fld ?_) | (with_reducible refine Rd.sfld ?_) | (with_reducible refine Rd.meth ?_) | (with_reducible refine Rd.forT ?_)
  | ((with_reducible refine' Rd.ixLT ?rh ?ra ?_); (case rh => walk_at "rdh"); (case ra => rfl))
  | ((with_reducible refine' Rd.setL ?rh ?ra ?_); (case rh => walk_at "rdh"); (case ra => rfl))
  | ((with_reducible refine Rd.ic ?rc ?_); (case rc => walk_at "rdc"))))
local macro_rules | `(tactic| walk_at "rd") => `(tactic| (repeat (walk_at "rd1")))


/-! ### Live.log -/
/-- what the law's deeds are -/
def DeedOk (d : PyData) : Prop := (∃ w n r : Str, (w = "grant" ∨ w = "revoke") ∧ d = .tuple [.str w, .str n, .str r]) ∨ ∃ (n : Str) (b : Bdy), d = .tuple [.str "rewrite", .str n, b.d] ∧ b.dp ≤ 6 ∧ b.wide 500
theorem deed_inv {K : PySem.W.Frag} {H : Hp} {v : V} {a b : Str} {d : PyData} (h : Dq K H v (.tuple [.str a, .str b, d])) : ∃ t y, v = .ref t ∧ SqT K H t [.str a, .str b, y] ∧ Dq K H y d := by
  obtain ⟨t, xs, rfl, ha, hx⟩ := tup_inv h
  cases hx with
  | cons h1 h2 =>
    cases h1
    cases h2 with
    | cons h3 h4 =>
      cases h3
      cases h4 with
      | cons h5 h6 =>
        cases h6
        exact ⟨t, _, rfl, ha, h5⟩
theorem PastE.get {K : PySem.W.Frag} {C : Addr} {W : Hp} : ∀ {xs : List V} {log : List (PyData × Parts)} {i : Nat} {v : V}, PastE K C W xs log → xs[i]? = some v → ∃ t x p e, v = .ref t ∧ log[i]? = some e ∧ W t = some (.tup [x, .ref p]) ∧ Dq K W x e.1 ∧ PAt K C W p e.2
  | _, _, 0, _, .cons a b c _, h => by cases h; exact ⟨_, _, _, _, rfl, rfl, a, b, c⟩
  | _, _, i + 1, _, .cons _ _ _ r, h => PastE.get (i := i) r h
abbrev s_Live_log : Stmt := clsM (top 27) 10
abbrev N_Live_log : List Str := ["self", "found", "deed", "ahead"]
theorem sc_Live_log : FnScope N_Live_log ["self"] (defScope s_Live_log) := ⟨rfl, rfl, rfl, by decide +kernel, rfl, by decide +kernel, by decide +kernel⟩
def sp_llog (K : PySem.W.Frag) (C L : Addr) : Sp := fun vs H Q _ => ∃ (l pa : Addr) (W : Hp) (q : Parts) (log : List (PyData × Parts)), vs = [.ref l] ∧ LCls K L ∧ Same W H ∧ LvAt K C L W H l pa q log ∧ (∀ e, e ∈ log → DeedOk e.1) ∧ log.length < 900 ∧ GiveC K W H (.list (log.map (·.1))) Q
section
variable {P : Program} {w : World} {K : PySem.W.Frag} {mg : Str → Option Value} {base : Heap} {C L f f_c : Addr} {fd fd_c : FuncData}
theorem ok_llog (F : FnM K "log" "Live.log" s_Live_log f fd)
    (G_copied_body : FnOk P w K mg base CX0 14 f_c fd_c ["body"] (sp_cbody K 6)) (g_copied_body : mg "copied_body" = some (.ref f_c)) (k_copied_body : PySem.W.keepIn K (.ref f_c) = true) (b_copied_body : Binds K fd_c ["body"] []) (T : TxtN mg) :
    FnOk P w K mg base CX0 15 f fd ["self"] (sp_llog K C L) := by
  refine F.ok sc_Live_log (fun vs H Q E h => ?_) (fun cdv A outer s H vs Q E hr h => ?_)
  · obtain ⟨l, pa, W, q, log, rfl, _⟩ := h
    rfl
  obtain ⟨l, pa, W, q, log, rfl, hL, sW, hv, hd, hl, hQ⟩ := h
  refine ⟨_, PSs.nox (pss_cons (ps_set (i := 1) sc_Live_log.nd rfl (by first | exact Or.inl rfl | exact Or.inr rfl) (pe_lst pa_nil))
    (pss_cons (ps_for PassesOwn.never rfl (Rd.pi_listK (K := K) rfl (Rd.pe_fldK (K := K) rfl (pv 0) rfl)) (Rd.pg_tupK (K := K) (n := 2) rfl (by rfl) (pgs_cons (pg_name (i := 2) sc_Live_log.nd rfl (by first | exact Or.inl rfl | exact Or.inr rfl)) (pgs_cons (pg_name (i := 3) sc_Live_log.nd rfl (by first | exact Or.inl rfl | exact Or.inr rfl)) pgs_nil))) (pss_one (ps_expr (pe_bm PySem.F.plainAttrs_list PySem.F.slot_list_append PySem.F.type_list_append mt_append (pv 1) (pa_cons (pe_ifExp (pt_cmpR op_eq (pe_ix (show IxR _ (rIxT K) from ix_tup) (pv 2) pe_int (fun _ _ => rfl)) pe_str (nomark _)) (pe_tup (pa_cons (pe_ix (show IxR _ (rIxT K) from ix_tup) (pv 2) pe_int (fun _ _ => rfl)) (pa_cons (pe_ix (show IxR _ (rIxT K) from ix_tup) (pv 2) pe_int (fun _ _ => rfl)) (pa_cons (pe_call G_copied_body (hr.mono (by omega)) rfl g_copied_body k_copied_body b_copied_body .nil pass0 (pa_cons (pe_ix (show IxR _ (rIxT K) from ix_tup) (pv 2) pe_int (fun _ _ => rfl)) pa_nil)) pa_nil)))) (pv 2)) pa_nil)))))
    (pss_one (ps_ret (pv 1))))), ?_⟩
  obtain ⟨dxl, p, xs, h1, h2, h3, h4, h5, h6, h7⟩ := id hv
  walk_at "rd"
  refine mkLs fun R H1 n1 s1 e1 => ?_
  walk_at "rd"
  refine Rd.fldAt (s1 _ _ h1) hL.c hL.n2 rfl ?_
  refine Rd.l1 (.inl (.inl (s1 _ _ h2))) ?_
  refine Rd.byL (xs := xs) (fun i σ H' => ∃ o2 o3, σ = [some (.ref l), some (.ref R), o2, o3] ∧ Coll K W W H R H' ((log.take i).map (·.1)))
    ⟨none, none, rfl, W, [], Same.refl W, Grow.refl, sW.trans s1, same_none sW n1, s1, e1, .nil⟩ (fun i σ H' hi h => ?_) (fun i x σ H' hi h => ?_) (fun σ H3 h => ?_)
  · obtain ⟨_, _, _, h⟩ := h
    exact .inl (.inl (h.old _ _ h2))
  · obtain ⟨o2, o3, rfl, W', its, b0, b1, b2, b3, b4, b5, b6⟩ := h
    obtain ⟨t, x, p', e, rfl, he, ht, hx, hp⟩ := PastE.get h7 hi
    have tl := take_len (f := Prod.fst) (xs := log) (i := i) (n := 1000) (by omega)
    have dx := Dq.same b0 _ _ hx
    refine Rd.tgt (Rd.tgAt (.inl (.inl (b2 _ _ (b0 _ _ ht)))) rfl ?_)
    walk_at "rd"
    refine Rd.app b5 ?_
    walk_at "rd"
    rcases hd e (List.mem_of_getElem? he) with ⟨w9, n, r, hw, ed⟩ | ⟨n, b, ed, hdp, hwd⟩
    · rw [ed] at dx
      obtain ⟨t9, y9, rfl, g1, g2⟩ := deed_inv dx
      refine Rd.ixT (sqT_same b2 g1) at0 ?_
      walk_at "rd"
      refine Rd.eq_ rfl (Rd.bl (Rd.brF (by rcases hw with rfl | rfl <;> exact decide_eq_false (fun z => by injection z with z; revert z; decide)) ?_))
      walk_at "rd"
      obtain ⟨z1, z2⟩ := Coll.put (ds' := (log.take (i + 1)).map (·.1)) (y := .ref t9) b0 b1 b3 b4 b5 b6 n1 (Same.refl H') Grow.refl b2 dx (by rw [take_map he, ed])
      refine Rd.appTo z1 (by rw [dqAll_len b6]; exact tl) ?_
      walk_at "rd"
      exact ⟨_, _, rfl, z2⟩
    · rw [ed] at dx
      obtain ⟨w1, w2⟩ := bdy_wide hwd
      obtain ⟨t9, y9, rfl, g1, g2⟩ := deed_inv dx
      refine Rd.ixT (sqT_same b2 g1) at0 ?_
      walk_at "rd"
      refine Rd.eq_ rfl (Rd.bl (Rd.brT (decide_eq_true rfl) ?_))
      walk_at "rd"
      refine Rd.ixT (sqT_same b2 g1) at0 ?_
      walk_at "rd"
      refine Rd.ixT (sqT_same b2 g1) at1 ?_
      walk_at "rd"
      refine Rd.ixT (sqT_same b2 g1) at2 ?_
      walk_at "rd"
      refine ⟨y9, W', b, rfl, b2, g2, hdp, w1, w2, fun T5 W5 H5 r1 r2 r3 r4 r5 => ?_⟩
      walk_at "rd"
      refine mkTs fun T6 H6 n6 s6 e6 => ?_
      walk_at "rd"
      obtain ⟨v1, v2, v3⟩ := newW r2 r1 r3 n6 s6 e6
      obtain ⟨z1, z2⟩ := Coll.put (ds' := (log.take (i + 1)).map (·.1)) (y := .ref T6) b0 b1 b3 b4 b5 b6 n1 (r1.trans s6) v1 v2 (.tup (.inl (.inl upd_same)) (.cons (.str _) (.cons (.str _) (.cons (Dq.same v3 _ _ r4) .nil)))) (by rw [take_map he, ed])
      refine Rd.appTo z1 (by rw [dqAll_len b6]; exact tl) ?_
      walk_at "rd"
      exact ⟨_, _, rfl, z2⟩
  obtain ⟨o2, o3, rfl, h⟩ := h
  have h : Coll K W W H R H3 (log.map (·.1)) := by
    rw [PastE.len h7, List.take_length] at h
    exact h
  obtain ⟨W3, v3, g3, sW3, s3, d3⟩ := Coll.done n1 h
  walk_at "rd"
  exact hQ R W3 H3 s3 g3 sW3 d3 n1
end
/-! ### Live.copy -/
abbrev s_Live_copy : Stmt := clsM (top 27) 11
abbrev N_Live_copy : List Str := ["self", "other"]
theorem sc_Live_copy : FnScope N_Live_copy ["self"] (defScope s_Live_copy) := ⟨rfl, rfl, rfl, by decide +kernel, rfl, by decide +kernel, by decide +kernel⟩
def sp_lcopy (K : PySem.W.Frag) (C L : Addr) : Sp := fun vs H Q _ => ∃ (l pa : Addr) (W : Hp) (q : Parts) (log : List (PyData × Parts)), vs = [.ref l] ∧ LCls K L ∧ Same W H ∧ LvAt K C L W H l pa q log ∧ log.length < 900 ∧ ∀ l2 pa2 H', H l2 = none → H pa2 = none → Same H H' → LvAt K C L W H' l2 pa2 q log → Q (.ref l2) H'
section
variable {P : Program} {w : World} {K : PySem.W.Frag} {mg : Str → Option Value} {base : Heap} {C L f f_i : Addr} {fd fd_i : FuncData}
theorem ok_lcopy (F : FnM K "copy" "Live.copy" s_Live_copy f fd)
    (M_Live : Mk K L f_i) (G_Live : FnOk P w K mg base CX0 2 f_i fd_i ["self", "program"] (sp_linit K C L)) (g_Live : mg "Live" = some (.ref L)) (b_Live : Binds K fd_i ["self", "program"] []) (T : TxtN mg) :
    FnOk P w K mg base CX0 4 f fd ["self"] (sp_lcopy K C L) := by
  refine F.ok sc_Live_copy (fun vs H Q E h => ?_) (fun cdv A outer s H vs Q E hr h => ?_)
  · obtain ⟨l, pa, W, q, log, rfl, _⟩ := h
    rfl
  obtain ⟨l, pa, W, q, log, rfl, hL, sW, hv, hl, hQ⟩ := h
  refine ⟨_, PSs.nox (pss_cons (ps_set (i := 1) sc_Live_copy.nd rfl (by first | exact Or.inl rfl | exact Or.inr rfl) (pe_make M_Live G_Live (hr.mono (by omega)) (by rfl) g_Live b_Live .nil pass0 (pa_cons (Rd.pe_fldK (K := K) rfl (pv 0) rfl) pa_nil)))
    (pss_cons (Rd.ps_fldK (K := K) rfl (pv 1) (pe_callTy (show CallR _ (.type "list") (Rd.rListOf K) from Rd.c_listOf) (by rfl) T.m_list (by decide +kernel) (pa_cons (Rd.pe_fldK (K := K) rfl (pv 0) rfl) pa_nil)) rfl)
    (pss_one (ps_ret (pv 1))))), ?_⟩
  obtain ⟨dxl, p, xs, h1, h2, h3, h4, h5, h6, h7⟩ := id hv
  walk_at "rd"
  refine make_ ?_
  walk_at "rd"
  refine Rd.fldAt h1 hL.c hL.n1 rfl ?_
  intro x dx hx hdx ne
  have s2 : Same H (upd (upd H dx (.own x)) x (.ins L dx [])) := (same_upd hdx).trans (same_upd ((upd_ne (Ne.symm ne)).trans hx))
  refine ⟨x, dx, p, W, q, rfl, upd_same, sW.trans s2, h6, fun pa2 H3 b3 n3 e3 e4 => ⟨rfl, ?_⟩⟩
  have s3 : Same H H3 := fun y o e => b3 y o (ne_of_none e hx) (s2 _ _ e)
  walk_at "rd"
  refine Rd.fldAt (s3 _ _ h1) hL.c hL.n2 rfl ?_
  walk_at "rd"
  refine ⟨pa, xs, rfl, .inl (.inl (.inl (s3 _ _ h2))), fun pa3 n4 => ?_⟩
  have s4 := same_upd (o := HO.lst xs) n4
  have np : x ≠ pa3 := fun z => by rw [← z, e3] at n4; cases n4
  walk_at "rd"
  refine Rd.fldPut (s4 _ _ e3) hL.c hL.n2 ?_
  walk_at "rd"
  have Hp3 : H pa3 = none := same_none s3 n4
  refine hQ x pa3 _ hx Hp3 (fun y o e => (upd_ne (ne_of_none e hx)).trans ((s3.trans s4) _ _ e)) ⟨dx, p, xs, upd_same, (upd_ne (Ne.symm np)).trans upd_same, np, same_none sW hx, same_none sW Hp3, h6, h7⟩
end
/-! ### Live.__eq__ -/
abbrev s_Live_eq : Stmt := clsM (top 27) 12
abbrev N_Live_eq : List Str := ["self", "other"]
theorem sc_Live_eq : FnScope N_Live_eq ["self", "other"] (defScope s_Live_eq) := ⟨rfl, rfl, rfl, by decide +kernel, rfl, by decide +kernel, by decide +kernel⟩
def sp_leq (K : PySem.W.Frag) (C L : Addr) : Sp := fun vs H Q _ => (∃ (l pa l2 pa2 : Addr) (W : Hp) (q q2 : Parts) (log log2 : List (PyData × Parts)), vs = [.ref l, .ref l2] ∧ LCls K L ∧ Same W H ∧ LvAt K C L W H l pa q log ∧ LvAt K C L W H l2 pa2 q2 log2 ∧ ∀ H', Same H H' → Q (.bl (eqP q q2)) H') ∨
  ∃ (l : Addr) (v : V) (t : Value), vs = [.ref l, v] ∧ TyX K H v t ∧ PySem.W.kitOne K t (.ref L) = some false ∧ Q (.bl false) H
section
variable {P : Program} {w : World} {K : PySem.W.Frag} {mg : Str → Option Value} {base : Heap} {C L f f_e : Addr} {fd fd_e : FuncData}
theorem ok_leq (F : FnM K "__eq__" "Live.__eq__" s_Live_eq f fd) (hI : PIsi K L) (g_Live : mg "Live" = some (.ref L))
    (G_Program_eq : FnOk P w K mg base CX0 16 f_e fd_e ["self", "other"] (sp_peq K C)) (s_eq : PySem.W.findIn K (.ref C) "__eq__" = some (some (.ref f_e))) (f_eq : PySem.W.isFn K (.ref f_e) = true) (b_Program_eq : Binds K fd_e ["self", "other"] []) (T : TxtN mg) :
    FnOk P w K mg base CX0 17 f fd ["self", "other"] (sp_leq K C L) := by
  refine F.ok sc_Live_eq (fun vs H Q E h => ?_) (fun cdv A outer s H vs Q E hr h => ?_)
  · rcases h with ⟨l, pa, l2, pa2, W, q, q2, log, log2, rfl, _⟩ | ⟨p, v, t, rfl, _⟩ <;> rfl
  refine ⟨_, PSs.nox (pss_one (ps_ret (pe_and (pe_callB (show CallR _ (.builtin "isinstance") (rIsi K) from call_isi) (by rfl) T.m_isinstance (by decide +kernel) (pa_cons (pv 1) (pa_cons (pe_glob (v := .ref L) rfl g_Live rfl) pa_nil))) (pe_one (pe_cmpR (show OpR _ (compareOp .Eq) (EqIns.rEqI C (sp_peq K C) E0) from EqIns.op_eqI G_Program_eq s_eq f_eq b_Program_eq (hr.mono (by omega)) pass0) (Rd.pe_fldK (K := K) rfl (pv 0) rfl) (Rd.pe_fldK (K := K) rfl (pv 1) rfl) (nomark _)))))), ?_⟩
  rcases h with ⟨l, pa, l2, pa2, W, q, q2, log, log2, rfl, hL, sW, hv, hv2, hQ⟩ | ⟨p, v, t, rfl, ty, k, hQ⟩
  · obtain ⟨dxl, p, xs, h1, h2, h3, h4, h5, h6, h7⟩ := id hv
    obtain ⟨dxl', p', xs', h1', h2', h3', h4', h5', h6', h7'⟩ := id hv2
    obtain ⟨W0, pdx, PL, PD, PB, kv1, kv2, s0, a1, a2, a3, a4, a5, a6, a7, a8, a9, ft⟩ := id h6
    obtain ⟨W0', pdx', PL', PD', PB', kv1', kv2', s0', a1', a2', a3', a4', a5', a6', a7', a8', a9', ft'⟩ := id h6'
    walk_at "rd"
    refine Rd.andv ?_
    walk_at "rd"
    refine isiOwn h1' hL.c hI kit_self ?_
    refine Rd.bl (Rd.brT rfl ?_)
    walk_at "rd"
    refine Rd.fldAt h1 hL.c hL.n1 rfl ?_
    walk_at "rd"
    refine Rd.fldAt h1' hL.c hL.n1 rfl ?_
    refine ⟨p, p', _, _, _, _, rfl, rfl, sW _ _ a4, sW _ _ a4', ?_⟩
    exact .inl ⟨p, p', W, q, q2, rfl, sW, h6, h6', fun H' s' => ⟨_, rfl, hQ H' s'⟩⟩
  · walk_at "rd"
    refine Rd.andv ?_
    walk_at "rd"
    refine ⟨_, _, _, _, false, rfl, .own L, ty, k, ?_⟩
    refine Rd.bl (Rd.brF rfl ?_)
    walk_at "rd"
    exact hQ
end

end Bs
set_option Elab.async false
set_option linter.all false
set_option maxRecDepth 100000
set_option maxHeartbeats 200000
/-! the law's own keeping -/
namespace Bs
open PySem PySem.Spec PyProof.Rows L2 Gd Er
local macro_rules | `(tactic| walk_at "rdc") => `(tactic| (first
  | assumption | exact Or.inl ⟨by omega, by omega⟩ | exact Or.inr ⟨by omega, by omega⟩ | exact Or.inl ⟨by decide, by decide⟩ | exact Or.inr ⟨by decide, by decide⟩
  | (show (0 : Int) < _; omega) | (show (0 : Int) < _; decide) | decide | omega | exact ⟨by decide, by decide, by decide⟩ | exact ⟨by decide, by decide +kernel⟩ | decide +kernel))
local macro_rules | `(tactic| walk_at "rdh") => `(tactic| (first | assumption | exact upd_same))
local macro_rules | `(tactic| walk_at "rd1") => `(tactic| (first
  | (with_reducible refine Rd.var rfl ?_) | (with_reducible refine Rd.con ?_) | (with_reducible refine Rd.op ?_) | (with_reducible refine Rd.un ?_) | (with_reducible refine Rd.i0 ?_) | (with_reducible refine Rd.iu ?_)
  | (with_reducible refine Rd.nil ?_) | (with_reducible refine Rd.cons ?_) | (with_reducible refine Rd.cb ?_) | (with_reducible refine Rd.asg ?_) | (with_reducible refine Rd.name ?_) | (with_reducible refine Rd.sub ?_) | (with_reducible refine Rd.rev ?_) | (with_reducible refine Rd.drop ?_) | (with_reducible refine Rd.bm ?_) | (with_reducible refine Rd.par ?_) | (with_reducible refine Rd.p2 ?_) | (with_reducible refine Rd.sl ?_) | (with_reducible refine Rd.noPart ?_) | (with_reducible refine Rd.part ?_) | (with_reducible refine Rd.int_ ?_) | (with_reducible refine Rd.seq ?_)
  | (with_reducible refine Rd.ret ?_) | (with_reducible refine Rd.retN ?_) | (with_reducible refine Rd.nxt ?_) | (with_reducible refine Rd.tst ?_) | (with_reducible refine Rd.tb_ ?_) | (with_reducible refine Rd.tnot ?_)
  | (with_reducible refine Rd.tor ?_) | (with_reducible refine Rd.tand ?_) | (with_reducible refine Rd.ifs ?_) | (with_reducible refine Rd.ife ?_) | (with_reducible refine Rd.lst ?_) | (with_reducible refine Rd.tup ?_)
  | (with_reducible refine Rd.int1 ?_) | (with_reducible refine Rd.bl ?_) | (with_reducible refine Rd.call ?_)
  | (with_reducible refine Rd.mx ?_) | (with_reducible refine Rd.bits ?_) | (with_reducible refine Rd.forR ?_) | (with_reducible refine Rd.forL ?_) | (with_reducible refine Rd.lcR ?_) | (with_reducible refine Rd.lcL ?_) | (with_reducible refine Rd.lcT ?_) | (with_reducible refine Rd.chain ?_) | (with_reducible refine Rd.notv ?_) | (with_reducible refine Rd.forS ?_) | (with_reducible refine Rd.lcS ?_) | (with_reducible refine Rd.str_ ?_) | (with_reducible refine Rd.forE ?_) | (with_reducible refine Rd.lcI ?_) | (with_reducible refine Rd.tgt ?_) | (with_reducible refine Rd.gcons ?_) | (with_reducible refine Rd.gnil ?_) | (with_reducible refine Rd.fld ?_) | (with_reducible refine Rd.sfld ?_) | (with_reducible refine Rd.meth ?_) | (with_reducible refine Rd.forT ?_)
  | ((with_reducible refine' Rd.ixLT ?rh ?ra ?_); (case rh => walk_at "rdh"); (case ra => rfl))
  | ((with_reducible refine' Rd.setL ?rh ?ra ?_); (case rh => walk_at "rdh"); (case ra => rfl))
  | ((with_reducible refine Rd.ic ?rc ?_); (case rc => walk_at "rdc"))))
local macro_rules | `(tactic| walk_at "rd") => `(tactic| (repeat (walk_at "rd1")))

/-! ### the law's own keeping -/
def partsD (q : Parts) : PyData := .list [rigD q.rs, ownD q.os, funD q.fs]
def stepD (e : PyData × Parts) : PyData := .tuple [e.1, partsD e.2]
def stepsD (log : List (PyData × Parts)) : PyData := .list (log.map stepD)
def StAt (K : PySem.W.Frag) (W H : Hp) (st : Addr) (q : Parts) (log : List (PyData × Parts)) : Prop := ∃ T S : Addr, H st = some (.lst [.ref T, .ref S]) ∧ W st = none ∧ Dq K W (.ref T) (partsD q) ∧ Dq K W (.ref S) (stepsD log)
theorem StAt.keep {K : PySem.W.Frag} {W W' H H' : Hp} {st : Addr} {q : Parts} {log : List (PyData × Parts)} (h : StAt K W H st q log) (gr : Grow W W' H) (hl : ∀ o, H st = some o → H' st = some o) : StAt K W' H' st q log := by
  obtain ⟨T, S, h1, h2, h3, h4⟩ := h
  exact ⟨T, S, hl _ h1, gr.n _ _ h1 h2, Dq.same gr.s _ _ h3, Dq.same gr.s _ _ h4⟩
mutual
theorem Stp.ok_rs {rs rs' ns : List Str} (h : ∀ x, x ∈ rs → x ∈ rs') : ∀ {m : Bool} {s : Stp}, s.ok rs ns m → s.ok rs' ns m
  | m, .call _, k => by rw [Stp.ok] at k ⊢; exact k
  | m, .check _, k => by rw [Stp.ok] at k ⊢; exact h _ k
  | m, .tail _, k => by rw [Stp.ok] at k ⊢; exact k
  | m, .back, k => by rw [Stp.ok]; trivial
  | m, .either a b, k => by rw [Stp.ok] at k ⊢; exact ⟨Bdy.ok_rs h k.1, Bdy.ok_rs h k.2⟩
  | m, .loop a, k => by rw [Stp.ok] at k ⊢; exact Bdy.ok_rs h k
  | m, .block _ a, k => by rw [Stp.ok] at k ⊢; exact Bdy.ok_rs h k
theorem Bdy.ok_rs {rs rs' ns : List Str} (h : ∀ x, x ∈ rs → x ∈ rs') : ∀ {m : Bool} {b : Bdy}, b.ok rs ns m → b.ok rs' ns m
  | m, .nil, k => by rw [Bdy.ok]; trivial
  | m, .cons s b, k => by rw [Bdy.ok] at k ⊢; exact ⟨Stp.ok_rs h k.1, Bdy.ok_rs h k.2⟩
end
/-- a deed of the law -/
def DeedS (d : PyData) : Prop := (∃ w n r : Str, (w = "grant" ∨ w = "revoke") ∧ n ∈ allO ∧ r ∈ allR ∧ d = .tuple [.str w, .str n, .str r]) ∨ ∃ (n : Str) (b : Bdy), n ∈ allN ∧ d = .tuple [.str "rewrite", .str n, b.d] ∧ b.ok allR allN false ∧ b.dp ≤ 6 ∧ b.cnt ≤ 15
theorem DeedS.ok {d : PyData} (h : DeedS d) : DeedOk d := by
  rcases h with ⟨w, n, r, a, _, _, e⟩ | ⟨n, b, _, e, _, h1, h2⟩
  · exact .inl ⟨w, n, r, a, e⟩
  · exact .inr ⟨n, b, e, h1, Bdy.wide_of _ (by omega)⟩
/-- the same rights, names of owners and functions -/
structure Like (q0 q : Parts) : Prop where
  f : Fits q
  r : q.rs = q0.rs
  o : q.os.map (·.1) = q0.os.map (·.1)
  n : q.fs.map (·.1) = q0.fs.map (·.1)
structure Good (q0 q : Parts) (log : List (PyData × Parts)) : Prop where
  h : Like q0 q
  d : ∀ e, e ∈ log → DeedS e.1 ∧ Like q0 e.2
structure Base (q0 : Parts) : Prop where
  r : ∀ x, x ∈ q0.rs → x ∈ allR
  o : ∀ x, x ∈ q0.os.map (·.1) → x ∈ allO
  n : ∀ x, x ∈ q0.fs.map (·.1) → x ∈ allN
theorem Good.snoc {q0 q q' : Parts} {log : List (PyData × Parts)} {d : PyData} (g : Good q0 q log) (h : Like q0 q') (hd : DeedS d) : Good q0 q' (log ++ [(d, q)]) :=
  ⟨h, fun e he => by
    rcases List.mem_append.mp he with he | he
    · exact g.d e he
    · rw [List.mem_singleton.mp he]
      exact ⟨hd, g.h⟩⟩
theorem Good.pop {q0 q q' : Parts} {log : List (PyData × Parts)} {d : PyData} (g : Good q0 q (log ++ [(d, q')])) : Good q0 q' log :=
  ⟨(g.d _ (List.mem_append_right _ List.mem_cons_self)).2, fun e he => g.d e (List.mem_append_left _ he)⟩
def Apart (g l pa st : Addr) : Prop := g ≠ l ∧ g ≠ pa ∧ g ≠ st ∧ l ≠ st ∧ pa ≠ st
def Four (g l pa st b : Addr) : Prop := b = g ∨ b = l ∨ b = pa ∨ b = st
theorem three_inv {K : PySem.W.Frag} {H : Hp} {xs : List V} {a b c : PyData} (h : DqAll K H xs [a, b, c]) : ∃ x y z, xs = [x, y, z] ∧ Dq K H x a ∧ Dq K H y b ∧ Dq K H z c := by
  cases h with
  | cons h1 h2 =>
    cases h2 with
    | cons h3 h4 =>
      cases h4 with
      | cons h5 h6 =>
        cases h6
        exact ⟨_, _, _, rfl, h1, h3, h5⟩
theorem two_inv {K : PySem.W.Frag} {H : Hp} {xs : List V} {a b : PyData} (h : DqAll K H xs [a, b]) : ∃ x y, xs = [x, y] ∧ Dq K H x a ∧ Dq K H y b := by
  cases h with
  | cons h1 h2 =>
    cases h2 with
    | cons h3 h4 =>
      cases h4
      exact ⟨_, _, rfl, h1, h3⟩
theorem parts_inv {K : PySem.W.Frag} {H : Hp} {v : V} {q : Parts} (h : Dq K H v (partsD q)) : ∃ T R O F : Addr, v = .ref T ∧ SqL K H T [.ref R, .ref O, .ref F] ∧ Dq K H (.ref R) (rigD q.rs) ∧ Dq K H (.ref O) (ownD q.os) ∧ Dq K H (.ref F) (funD q.fs) := by
  obtain ⟨T, xs, rfl, hT, hx⟩ := lst_inv h
  obtain ⟨x, y, z, rfl, h1, h2, h3⟩ := three_inv hx
  obtain ⟨R, _, rfl, _⟩ := lst_inv h1
  obtain ⟨O, _, rfl, _⟩ := lst_inv h2
  obtain ⟨F, _, rfl, _⟩ := lst_inv h3
  exact ⟨T, R, O, F, rfl, hT, h1, h2, h3⟩
theorem rig_inv {K : PySem.W.Frag} {H : Hp} {v : V} {rs : List Str} (h : Dq K H v (rigD rs)) : ∃ R, v = .ref R ∧ SqL K H R (rs.map V.str) := by
  obtain ⟨R, xs, rfl, h1, h2⟩ := lst_inv h
  have e := strs_inv h2
  subst e
  exact ⟨R, rfl, h1⟩
theorem none_of {H H1 : Hp} (al : ∀ x o, H x = some o → ∃ u, H1 x = some u) {p : Addr} (h : H1 p = none) : H p = none := by
  cases e : H p with
  | none => rfl
  | some o =>
    obtain ⟨u, hu⟩ := al p o e
    rw [hu] at h
    cases h
/-- state[1] = steps + [(deed, state[0])]; state[0] = later -/
def tailT (K : PySem.W.Frag) : TS := tSeq (tAsg (tOp (CatS.rCatS K) (tVar 6) (tLst (tCons (tTup (tCons (tVar 13) (tCons (tOp (rIxL K) (tVar 2) (tC (.int 0))) tNil))) tNil))) (gSub (tVar 2) (tC (.int 1)) rSetL)) (tAsg (tVar 10) (gSub (tVar 2) (tC (.int 0)) rSetL))
theorem tail_ {K : PySem.W.Frag} {W W1 H H1 : Hp} {st S T A : Addr} {dv x y z : V} {d : PyData} {q q' : Parts} {log : List (PyData × Parts)} {σ : L2.St} {D : Ends}
    (h2 : σ[2]? = some (some (.ref st))) (h6 : σ[6]? = some (some (.ref S))) (h10 : σ[10]? = some (some (.ref A))) (h13 : σ[13]? = some (some dv))
    (al : ∀ x o, H x = some o → ∃ u, H1 x = some u) (g1 : Grow W W1 H) (sW : Same W1 H1) (hst : H1 st = some (.lst [.ref T, .ref S])) (wst : W1 st = none) (hT : Dq K W1 (.ref T) (partsD q)) (hS : Dq K W1 (.ref S) (stepsD log))
    (hA : H1 A = some (.lst [x, y, z])) (wA : W1 A = none) (hA0 : H A = none) (hx : Dq K W1 x (rigD q'.rs)) (hy : Dq K W1 y (ownD q'.os)) (hz : Dq K W1 z (funD q'.fs)) (hd : Dq K W1 dv d) (As : A ≠ st) (len : log.length < 900)
    (k : ∀ W2 H2, (∀ b o, b ≠ st → H1 b = some o → H2 b = some o) → Grow W W2 H → Same W1 W2 → Same W2 H2 → StAt K W2 H2 st q' (log ++ [(d, q)]) → D.nx σ H2) : tailT K D σ H1 := by
  obtain ⟨_, sx, e0, hs, hsx⟩ := lst_inv hS
  cases e0
  have lsx := dqAll_len hsx
  rw [List.length_map] at lsx
  unfold tailT
  refine Rd.seq (Rd.asg (Rd.op (Rd.var h6 (Rd.lst (Rd.cons (Rd.tup (Rd.cons (Rd.var h13 (Rd.cons (Rd.op (Rd.var h2 (Rd.con (Rd.ixL (.inl (.inl hst)) at0 ?_)))))))))))))
  refine Rd.nil (mkTs fun t H3 n3 s3 e3 => ?_)
  refine Rd.nil (mkLs fun b H4 n4 s4 e4 => ?_)
  refine CatS.at_ ((sW.trans (s3.trans s4)).seq hs) (.inl (.inl e4)) (fun c n5 => ?_) (by rw [lsx]; show log.length + 1 ≤ 1000; omega)
  have s5 := same_upd (o := HO.lst (sx ++ [.ref t])) n5
  have s15 := (s3.trans s4).trans s5
  refine Rd.sub (Rd.var h2 (Rd.con (Rd.setL (s15 _ _ hst) rfl ?_)))
  refine Rd.asg (Rd.var h10 (Rd.sub (Rd.var h2 (Rd.con (Rd.setL upd_same rfl ?_)))))
  have tst : t ≠ st := fun e => by rw [e, hst] at n3; cases n3
  have cst : c ≠ st := fun e => by rw [e, (s3.trans s4) _ _ hst] at n5; cases n5
  have tA : t ≠ A := fun e => by rw [e, hA] at n3; cases n3
  have cA : c ≠ A := fun e => by rw [e, (s3.trans s4) _ _ hA] at n5; cases n5
  have al2 : ∀ x o, H x = some o → ∃ u, upd H4 c (.lst (sx ++ [.ref t])) x = some u := fun x o e => by
    obtain ⟨u, hu⟩ := al x o e
    exact ⟨u, s15 _ _ hu⟩
  have t0 : H t = none := none_of al n3
  have c0 : H c = none := none_of al (same_none (s3.trans s4) n5)
  have wt : W1 t = none := same_none sW n3
  have wc : W1 c = none := same_none (sW.trans (s3.trans s4)) n5
  have tc : t ≠ c := fun e => by rw [← e, s4 _ _ e3] at n5; cases n5
  -- the written part: A, t, c
  have e1 : Same W1 (upd W1 A (.lst [x, y, z])) := same_upd wA
  have wt2 : upd W1 A (.lst [x, y, z]) t = none := (upd_ne tA).trans wt
  have e2 := same_upd (o := HO.tup [dv, .ref T]) wt2
  have wc2 : upd (upd W1 A (.lst [x, y, z])) t (.tup [dv, .ref T]) c = none := (upd_ne (Ne.symm tc)).trans ((upd_ne cA).trans wc)
  have e3' := same_upd (o := HO.lst (sx ++ [.ref t])) wc2
  have e13 := (e1.trans e2).trans e3'
  have w3st : upd (upd (upd W1 A (.lst [x, y, z])) t (.tup [dv, .ref T])) c (.lst (sx ++ [.ref t])) st = none := (upd_ne (Ne.symm cst)).trans ((upd_ne (Ne.symm tst)).trans ((upd_ne (Ne.symm As)).trans wst))
  refine k (upd (upd (upd W1 A (.lst [x, y, z])) t (.tup [dv, .ref T])) c (.lst (sx ++ [.ref t]))) _ (fun b o n e => (upd_ne n).trans ((upd_ne n).trans (s15 _ _ e))) (((g1.put hA0 wA).put t0 wt2).put c0 wc2) e13 ?_ ⟨A, c, upd_same, w3st, ?_, ?_⟩
  · refine fun b o e => (upd_ne (fun z => by rw [z, w3st] at e; cases e)).trans ((upd_ne (fun z => by rw [z, w3st] at e; cases e)).trans ?_)
    exact same_put (same_put (same_put (sW.trans s15) (s15 _ _ hA)) (s5 _ _ (s4 _ _ e3))) upd_same b o e
  · exact .lst (.inl (.inl (e3' _ _ (e2 _ _ upd_same)))) (.cons (Dq.same e13 _ _ hx) (.cons (Dq.same e13 _ _ hy) (.cons (Dq.same e13 _ _ hz) .nil)))
  · refine .lst (.inl (.inl upd_same)) ?_
    rw [List.map_append]
    exact dqAll_app (.cons (.tup (.inl (.inl (e3' _ _ upd_same))) (.cons (Dq.same e13 _ _ hd) (.cons (Dq.same e13 _ _ hT) .nil))) .nil) (Dq.sameAll e13 _ _ hsx)

end Bs
set_option Elab.async false
set_option linter.all false
set_option maxRecDepth 100000
set_option maxHeartbeats 200000
/-! the law's step -/
namespace Bs
open PySem PySem.Spec PyProof.Rows L2 Gd Er
local macro_rules | `(tactic| walk_at "rdc") => `(tactic| (first
  | assumption | exact Or.inl ⟨by omega, by omega⟩ | exact Or.inr ⟨by omega, by omega⟩ | exact Or.inl ⟨by decide, by decide⟩ | exact Or.inr ⟨by decide, by decide⟩
  | (show (0 : Int) < _; omega) | (show (0 : Int) < _; decide) | decide | omega | exact ⟨by decide, by decide, by decide⟩ | exact ⟨by decide, by decide +kernel⟩ | decide +kernel))
local macro_rules | `(tactic| walk_at "rdh") => `(tactic| (first | assumption | exact upd_same))
local macro_rules | `(tactic| walk_at "rd1") => `(tactic| (first
  | (with_reducible refine Rd.var rfl ?_) | (with_reducible refine Rd.con ?_) | (with_reducible refine Rd.op ?_) | (with_reducible refine Rd.un ?_) | (with_reducible refine Rd.i0 ?_) | (with_reducible refine Rd.iu ?_)
  | (with_reducible refine Rd.nil ?_) | (with_reducible refine Rd.cons ?_) | (with_reducible refine Rd.cb ?_) | (with_reducible refine Rd.asg ?_) | (with_reducible refine Rd.name ?_) | (with_reducible refine Rd.sub ?_) | (with_reducible refine Rd.rev ?_) | (with_reducible refine Rd.drop ?_) | (with_reducible refine Rd.bm ?_) | (with_reducible refine Rd.par ?_) | (with_reducible refine Rd.p2 ?_) | (with_reducible refine Rd.sl ?_) | (with_reducible refine Rd.noPart ?_) | (with_reducible refine Rd.part ?_) | (with_reducible refine Rd.int_ ?_) | (with_reducible refine Rd.seq ?_)
  | (with_reducible refine Rd.ret ?_) | (with_reducible refine Rd.retN ?_) | (with_reducible refine Rd.nxt ?_) | (with_reducible refine Rd.tst ?_) | (with_reducible refine Rd.tb_ ?_) | (with_reducible refine Rd.tnot ?_)
  | (with_reducible refine Rd.tor ?_) | (with_reducible refine Rd.tand ?_) | (with_reducible refine Rd.ifs ?_) | (with_reducible refine Rd.ife ?_) | (with_reducible refine Rd.lst ?_) | (with_reducible refine Rd.tup ?_)
  | (with_reducible refine Rd.int1 ?_) | (with_reducible refine Rd.bl ?_) | (with_reducible refine Rd.call ?_)
  | (with_reducible refine Rd.mx ?_) | (with_reducible refine Rd.bits ?_) | (with_reducible refine Rd.forR ?_) | (with_reducible refine Rd.forL ?_) | (with_reducible refine Rd.lcR ?_) | (with_reducible refine Rd.lcL ?_) | (with_reducible refine Rd.lcT ?_) | (with_reducible refine Rd.chain ?_) | (with_reducible refine Rd.notv ?_) | (with_reducible refine Rd.forS ?_) | (with_reducible refine Rd.lcS ?_) | (with_reducible refine Rd.str_ ?_) | (with_reducible refine Rd.forE ?_) | (with_reducible refine Rd.lcI ?_) | (with_reducible refine Rd.tgt ?_) | (with_reducible refine Rd.gcons ?_) | (with_reducible refine Rd.gnil ?_) | (with_reducible refine Rd.fld ?_) | (with_reducible refine Rd.sfld ?_) | (with_reducible refine Rd.meth ?_) | (with_reducible refine Rd.forT ?_)
  | ((with_reducible refine' Rd.ixLT ?rh ?ra ?_); (case rh => walk_at "rdh"); (case ra => rfl))
  | ((with_reducible refine' Rd.setL ?rh ?ra ?_); (case rh => walk_at "rdh"); (case ra => rfl))
  | ((with_reducible refine Rd.ic ?rc ?_); (case rc => walk_at "rdc"))))
local macro_rules | `(tactic| walk_at "rd") => `(tactic| (repeat (walk_at "rd1")))


/-! ### _law_step -/
abbrev s_law_step : Stmt := top 41
abbrev N_law_step : List Str := ["generator", "live", "state", "rights", "owners", "functions", "steps", "kind", "owner", "right", "later", "name", "some", "deed", "more", "names", "body", "one", "old"]
theorem sc_law_step : FnScope N_law_step ["generator", "live", "state"] (defScope s_law_step) := ⟨rfl, rfl, rfl, by decide +kernel, rfl, by decide +kernel, by decide +kernel⟩
def cL : Nat := 100
def sp_lstep (K : PySem.W.Frag) (C L : Addr) : Sp := fun vs H Q _ => ∃ (g l pa st : Addr) (n : Nat) (W : Hp) (q0 q : Parts) (log : List (PyData × Parts)), vs = [.ref g, .ref l, .ref st] ∧ PCls K C ∧ LCls K L ∧ Same W H ∧ W g = none ∧ GenAt H g n ∧ cL ≤ n ∧ LvAt K C L W H l pa q log ∧ StAt K W H st q log ∧
  Apart g l pa st ∧ Base q0 ∧ Good q0 q log ∧ log.length < 800 ∧ ∀ W' H' q' log', ButS (Four g l pa st) H H' → Grow W W' H → Same W' H' → GenAt H' g (n - cL) → LvAt K C L W' H' l pa q' log' → StAt K W' H' st q' log' → Good q0 q' log' → log'.length ≤ log.length + 1 → Q .non H'
theorem both {A : Prop} {S : Hp → Prop} (u : Hp → Prop) (rest : ∀ H4, S H4 → u H4) (main : (∀ H4, S H4 → u H4) → A) : A := main rest
/-- later[1] = [(one, more if one == name else old) for one, old in owners] -/
def rows1T (K : PySem.W.Frag) : TS := tAsg (tLc (iList K (tVar 4)) (gTup K 2 (gCons (gName 17) (gCons (gName 18) gNil))) tYes (tTup (tCons (tVar 17) (tCons (tIf (tTest (tOp rEq (tVar 17) (tVar 11))) (tVar 14) (tVar 18)) tNil))) [17, 18]) (gSub (tVar 10) (tC (.int 1)) rSetL)
theorem rows1_ {K : PySem.W.Frag} {W1 H1 : Hp} {O A M : Addr} {x y z : V} {os : List (Str × List Str)} {n : Str} {more : List Str} {v0 v1 v2 v3 v5 v6 v7 v8 v9 v12 v13 : Option V} {D : Ends}
    (sW : Same W1 H1) (hO : Dq K W1 (.ref O) (ownD os)) (hM : SqL K W1 M (more.map V.str)) (hA : H1 A = some (.lst [x, y, z])) (wA : W1 A = none) (lo : os.length < 1000)
    (k : ∀ T W2 H2, (∀ b o, b ≠ A → H1 b = some o → H2 b = some o) → Grow W1 W2 H1 → Same W2 H2 → H2 A = some (.lst [x, .ref T, z]) → Dq K W2 (.ref T) (ownD (os.map fun o => (o.1, if o.1 = n then more else o.2))) → D.nx [v0, v1, v2, v3, some (.ref O), v5, v6, v7, v8, v9, some (.ref A), some (.str n), v12, v13, some (.ref M), none, none, none, none] H2) :
    rows1T K D [v0, v1, v2, v3, some (.ref O), v5, v6, v7, v8, v9, some (.ref A), some (.str n), v12, v13, some (.ref M), none, none, none, none] H1 := by
  obtain ⟨_, ox, e0, hOs, hOx⟩ := lst_inv hO
  cases e0
  unfold rows1T
  walk_at "rd"
  refine Rd.l1 (sW.seq hOs) fun D2 hD => ?_
  refine Rd.byCL (xs := ox) (fun i H' => Coll K W1 W1 H1 D2 H' ((os.take i).map fun o => od (o.1, if o.1 = n then more else o.2))) (Coll.nil sW hD) (fun i H' hi h => h.seen.seq hOs) (fun i x H' hi h => ?_) (fun H3 h => ?_)
  · obtain ⟨W', its, b0, b1, b2, b3, b4, b5, b6⟩ := h
    obtain ⟨o, ho, hx⟩ := ds_get hOx hi
    obtain ⟨ta, la, rfl, hta, hla⟩ := own_inv (Dq.same b0 _ _ hx)
    refine turn2 (sqT_same b2 hta) rfl ?_
    walk_at "rd"
    refine Rd.eq_ rfl (Rd.bl ?_)
    by_cases c : o.1 = n
    · refine Rd.brT (by rw [c]; exact decide_eq_true rfl) ?_
      walk_at "rd"
      refine mkTs fun T6 H6 n6 s6 e6 => ?_
      obtain ⟨v1, v2, v3⟩ := newW Grow.refl (Same.refl H') b2 n6 s6 e6
      refine Coll.acc b0 b1 b3 b4 b5 b6 hD s6 v1 v2 ?_ (take_map ho) (take_len lo)
      exact .tup (.inl (.inl upd_same)) (.cons (.str _) (.cons (.lst (v3.seq (b0.seq (by rw [if_pos c]; exact hM))) (dqAll_strs _)) .nil))
    · refine Rd.brF (decide_eq_false fun z => c (by injection z)) ?_
      walk_at "rd"
      refine mkTs fun T6 H6 n6 s6 e6 => ?_
      obtain ⟨v1, v2, v3⟩ := newW Grow.refl (Same.refl H') b2 n6 s6 e6
      refine Coll.acc b0 b1 b3 b4 b5 b6 hD s6 v1 v2 ?_ (take_map ho) (take_len lo)
      exact .tup (.inl (.inl upd_same)) (.cons (.str _) (.cons (.lst (v3.seq (by rw [if_neg c]; exact hla)) (dqAll_strs _)) .nil))
  have h : Coll K W1 W1 H1 D2 H3 (os.map fun o => od (o.1, if o.1 = n then more else o.2)) := by
    rw [dqAll_len hOx, List.length_map, List.take_length] at h
    exact h
  obtain ⟨W3, v3, g3, sW3, s3, d3⟩ := Coll.done hD h
  have eD : PyData.list (os.map fun o => od (o.1, if o.1 = n then more else o.2)) = ownD (os.map fun o => (o.1, if o.1 = n then more else o.2)) := by
    unfold ownD
    rw [List.map_map]; rfl
  rw [eD] at d3
  have w3A : W3 A = none := g3.n A _ hA wA
  walk_at "rd"
  refine Rd.setL (s3 _ _ hA) rfl ?_
  refine k D2 W3 _ (fun b o nb e => (upd_ne nb).trans (s3 _ _ e)) g3 (fun b o e => (upd_ne (fun z => by rw [z, w3A] at e; cases e)).trans (sW3 _ _ e)) upd_same d3

end Bs
set_option Elab.async false
set_option linter.all false
set_option maxRecDepth 100000
set_option maxHeartbeats 4000000
/-! the law's step, proved -/
namespace Bs
open PySem PySem.Spec PyProof.Rows L2 Gd Er
local macro_rules | `(tactic| walk_at "rdc") => `(tactic| (first
  | assumption | exact Or.inl ⟨by omega, by omega⟩ | exact Or.inr ⟨by omega, by omega⟩ | exact Or.inl ⟨by decide, by decide⟩ | exact Or.inr ⟨by decide, by decide⟩
  | (show (0 : Int) < _; omega) | (show (0 : Int) < _; decide) | decide | omega | exact ⟨by decide, by decide, by decide⟩ | exact ⟨by decide, by decide +kernel⟩ | decide +kernel))
local macro_rules | `(tactic| walk_at "rdh") => `(tactic| (first | assumption | exact upd_same))
local macro_rules | `(tactic| walk_at "rd1") => `(tactic| (first
  | (with_reducible refine Rd.var rfl ?_) | (with_reducible refine Rd.con ?_) | (with_reducible refine Rd.op ?_) | (with_reducible refine Rd.un ?_) | (with_reducible refine Rd.i0 ?_) | (with_reducible refine Rd.iu ?_)
  | (with_reducible refine Rd.nil ?_) | (with_reducible refine Rd.cons ?_) | (with_reducible refine Rd.cb ?_) | (with_reducible refine Rd.asg ?_) | (with_reducible refine Rd.name ?_) | (with_reducible refine Rd.sub ?_) | (with_reducible refine Rd.rev ?_) | (with_reducible refine Rd.drop ?_) | (with_reducible refine Rd.bm ?_) | (with_reducible refine Rd.par ?_) | (with_reducible refine Rd.p2 ?_) | (with_reducible refine Rd.sl ?_) | (with_reducible refine Rd.noPart ?_) | (with_reducible refine Rd.part ?_) | (with_reducible refine Rd.int_ ?_) | (with_reducible refine Rd.seq ?_)
  | (with_reducible refine Rd.ret ?_) | (with_reducible refine Rd.retN ?_) | (with_reducible refine Rd.nxt ?_) | (with_reducible refine Rd.tst ?_) | (with_reducible refine Rd.tb_ ?_) | (with_reducible refine Rd.tnot ?_)
  | (with_reducible refine Rd.tor ?_) | (with_reducible refine Rd.tand ?_) | (with_reducible refine Rd.ifs ?_) | (with_reducible refine Rd.ife ?_) | (with_reducible refine Rd.lst ?_) | (with_reducible refine Rd.tup ?_)
  | (with_reducible refine Rd.int1 ?_) | (with_reducible refine Rd.bl ?_) | (with_reducible refine Rd.call ?_)
  | (with_reducible refine Rd.mx ?_) | (with_reducible refine Rd.bits ?_) | (with_reducible refine Rd.forR ?_) | (with_reducible refine Rd.forL ?_) | (with_reducible refine Rd.lcR ?_) | (with_reducible refine Rd.lcL ?_) | (with_reducible refine Rd.lcT ?_) | (with_reducible refine Rd.chain ?_) | (with_reducible refine Rd.notv ?_) | (with_reducible refine Rd.forS ?_) | (with_reducible refine Rd.lcS ?_) | (with_reducible refine Rd.str_ ?_) | (with_reducible refine Rd.forE ?_) | (with_reducible refine Rd.lcI ?_) | (with_reducible refine Rd.tgt ?_) | (with_reducible refine Rd.gcons ?_) | (with_reducible refine Rd.gnil ?_) | (with_reducible refine Rd.fld ?_) | (with_reducible refine Rd.sfld ?_) | (with_reducible refine Rd.meth ?_) | (with_reducible refine Rd.forT ?_)
  | ((with_reducible refine' Rd.ixLT ?rh ?ra ?_); (case rh => walk_at "rdh"); (case ra => rfl))
  | ((with_reducible refine' Rd.setL ?rh ?ra ?_); (case rh => walk_at "rdh"); (case ra => rfl))
  | ((with_reducible refine Rd.ic ?rc ?_); (case rc => walk_at "rdc"))))
local macro_rules | `(tactic| walk_at "rd") => `(tactic| (repeat (walk_at "rd1")))


theorem Grow.al {W W2 H H1 : Hp} (al : ∀ x o, H x = some o → ∃ u, H1 x = some u) (g : Grow W W2 H1) : Grow W W2 H := ⟨g.s, fun b o e w => by
  obtain ⟨u, hu⟩ := al b o e
  exact g.n b u hu w⟩
theorem But.four {g l pa st : Addr} {H H' : Hp} (b : But g H H') : ButS (Four g l pa st) H H' := fun x o n e => b x o (fun z => n (.inl z)) e
theorem ButS.four {g l pa st : Addr} {H H' : Hp} (b : ButS (Two l pa) H H') : ButS (Four g l pa st) H H' := b.mono fun x h => h.elim (fun z => .inr (.inl z)) fun z => .inr (.inr (.inl z))
theorem al_trans {H H1 H2 : Hp} (a : ∀ x o, H x = some o → ∃ u, H1 x = some u) (b : ∀ x o, H1 x = some o → ∃ u, H2 x = some u) : ∀ x o, H x = some o → ∃ u, H2 x = some u := fun x o e => by
  obtain ⟨u, hu⟩ := a x o e
  exact b x u hu
theorem revoke_os {q : Parts} {n r : Str} {rs : List Str} (ft : Fits q) (h : (n, rs) ∈ q.os) : (q.os.map fun o => (o.1, if o.1 = n then rs.filter (fun x => !decide (x = r)) else o.2)) = (revokeP q n r).os := by
  refine List.map_congr_left fun o ho => ?_
  by_cases c : o.1 = n
  · have e : o.2 = rs := own_uniq ft.od (show (n, o.2) ∈ q.os by rw [← c]; exact ho) h
    rw [if_pos c, ← e, decide_eq_true c]
    rfl
  · rw [if_neg c, decide_eq_false c]
    show (o.1, o.2) = (o.1, o.2.filter fun _ => true)
    rw [List.filter_eq_self.mpr (fun _ _ => rfl)]
theorem grant_os {q : Parts} {n r : Str} {rs : List Str} (ft : Fits q) (h : (n, rs) ∈ q.os) : (q.os.map fun o => (o.1, if o.1 = n then rs ++ [r] else o.2)) = (grantP q n r).os := by
  refine List.map_congr_left fun o ho => ?_
  by_cases c : o.1 = n
  · have e : o.2 = rs := own_uniq ft.od (show (n, o.2) ∈ q.os by rw [← c]; exact ho) h
    rw [if_pos c, if_pos c, ← e]
  · rw [if_neg c, if_neg c]
theorem like_grant {q0 q : Parts} {n r : Str} (h : Like q0 q) (f : Fits (grantP q n r)) : Like q0 (grantP q n r) := ⟨f, h.r, by rw [← h.o]; exact map_fst (g := fun o => if o.1 = n then o.2 ++ [r] else o.2) q.os, h.n⟩
theorem like_revoke {q0 q : Parts} {n r : Str} (h : Like q0 q) : Like q0 (revokeP q n r) := ⟨fits_revoke h.f, h.r, by rw [← h.o]; exact map_fst (g := fun o => o.2.filter fun x => !(decide (o.1 = n) && decide (x = r))) q.os, h.n⟩
theorem like_rewrite {q0 q : Parts} {n : Str} {b : Bdy} (h : Like q0 q) (f : Fits (rewriteP q n b)) : Like q0 (rewriteP q n b) := ⟨f, h.r, h.o, by
  rw [← h.n]
  show (q.fs.map _).map _ = _
  rw [List.map_map]; rfl⟩
theorem GenAt.at_ {H H' : Hp} {g : Addr} {n : Nat} (h : GenAt H g n) (s : ∀ o, H g = some o → H' g = some o) : GenAt H' g n := by
  obtain ⟨x, y, z, e, r⟩ := h
  exact ⟨x, y, z, s _ e, r⟩
theorem LvAt.keep2 {K : PySem.W.Frag} {C L : Addr} {W W' H H' : Hp} {l pa : Addr} {q : Parts} {log : List (PyData × Parts)} (h : LvAt K C L W H l pa q log) (s : Same W W') (wl : W' l = none) (wp : W' pa = none) (hl : ∀ o, H l = some o → H' l = some o) (hp : ∀ o, H pa = some o → H' pa = some o) : LvAt K C L W' H' l pa q log := by
  obtain ⟨dx, p, xs, h1, h2, h3, h4, h5, h6, h7⟩ := h
  exact ⟨dx, p, xs, hl _ h1, hp _ h2, h3, wl, wp, h6.same s, h7.same s⟩
theorem dqAll_snoc {K : PySem.W.Frag} {H : Hp} {x : V} {d : PyData} : ∀ {ys : List V} {ds : List PyData}, DqAll K H (ys ++ [x]) (ds ++ [d]) → DqAll K H ys ds ∧ Dq K H x d
  | [], [], h => by
    cases h with
    | cons a b => exact ⟨.nil, a⟩
  | [], e :: ds, h => by
    have := dqAll_len h
    rw [List.length_append, List.length_append, List.length_cons] at this
    simp at this
  | y :: ys, [], h => by
    have := dqAll_len h
    rw [List.length_append, List.length_append, List.length_cons] at this
    simp at this
  | y :: ys, e :: ds, h => by
    have h : DqAll K H (y :: (ys ++ [x])) (e :: (ds ++ [d])) := h
    cases h with
    | cons a b =>
      obtain ⟨c1, c2⟩ := dqAll_snoc b
      exact ⟨.cons a c1, c2⟩
theorem steps_last {K : PySem.W.Frag} {H : Hp} {sx : List V} {log : List (PyData × Parts)} {d : PyData} {q : Parts} (h : DqAll K H sx ((log ++ [(d, q)]).map stepD)) : ∃ ys t x T, sx = ys ++ [.ref t] ∧ DqAll K H ys (log.map stepD) ∧ SqT K H t [x, .ref T] ∧ Dq K H x d ∧ Dq K H (.ref T) (partsD q) := by
  rcases List.eq_nil_or_concat sx with rfl | ⟨ys, v, e⟩
  · have := dqAll_len h
    rw [List.length_map, List.length_append] at this
    simp at this
  · rw [List.concat_eq_append] at e
    subst e
    rw [List.map_append] at h
    obtain ⟨h1, h2⟩ := dqAll_snoc h
    obtain ⟨t, xs, rfl, h3, h4⟩ := tup_inv h2
    obtain ⟨x, y, rfl, h5, h6⟩ := two_inv h4
    obtain ⟨T, _, _, _, rfl, _⟩ := parts_inv h6
    exact ⟨ys, t, x, T, rfl, h1, h3, h5, h6⟩
theorem toS {t : TS} {D : Ends} {σ σ' : L2.St} {H : Hp} (e : σ = σ') (q : t D σ' H) : t D σ H := by
  rw [e]; exact q
section
variable {P : Program} {w : World} {K : PySem.W.Frag} {mg : Str → Option Value} {base : Heap} {C L f f_k f_g f_v f_w f_r f_b f_c : Addr} {fd fd_k fd_g fd_v fd_w fd_r fd_b fd_c : FuncData}
theorem ok_lstep (F : FnP K "_law_step" s_law_step f fd) (c_Live : Cls K L)
    (m_Live_back : Meth K L "back" f_k) (G_Live_back : FnOk P w K mg base CX0 1 f_k fd_k ["self"] (sp_back0 K C L)) (b_Live_back : Binds K fd_k ["self"] [])
    (m_Live_grant : Meth K L "grant" f_g) (G_Live_grant : FnOk P w K mg base CX0 19 f_g fd_g ["self", "owner", "right"] (sp_grant K C L)) (b_Live_grant : Binds K fd_g ["self", "owner", "right"] [])
    (m_Live_revoke : Meth K L "revoke" f_v) (G_Live_revoke : FnOk P w K mg base CX0 19 f_v fd_v ["self", "owner", "right"] (sp_revoke K C L)) (b_Live_revoke : Binds K fd_v ["self", "owner", "right"] [])
    (m_Live_rewrite : Meth K L "rewrite" f_w) (G_Live_rewrite : FnOk P w K mg base CX0 19 f_w fd_w ["self", "name", "body"] (sp_rewrite K C L)) (b_Live_rewrite : Binds K fd_w ["self", "name", "body"] [])
    (G_law_random : FnOk P w K mg base CX0 2 f_r fd_r ["generator", "bound"] sp_rnd) (g_law_random : mg "_law_random" = some (.ref f_r)) (k_law_random : PySem.W.keepIn K (.ref f_r) = true) (b_law_random : Binds K fd_r ["generator", "bound"] [])
    (G_law_body_drawn : FnOk P w K mg base CX0 6 f_b fd_b ["generator", "rights", "names", "deep", "marked", "most"] (sp_body K 1)) (g_law_body_drawn : mg "_law_body_drawn" = some (.ref f_b)) (k_law_body_drawn : PySem.W.keepIn K (.ref f_b) = true) (b_law_body_drawn : Binds K fd_b ["generator", "rights", "names", "deep", "marked", "most"] [])
    (G_law_copied : FnOk P w K mg base CX0 7 f_c fd_c ["body"] (sp_copied K 6)) (g_law_copied : mg "_law_copied" = some (.ref f_c)) (k_law_copied : PySem.W.keepIn K (.ref f_c) = true) (b_law_copied : Binds K fd_c ["body"] []) (T : TxtN mg) :
    FnOk P w K mg base CX0 20 f fd ["generator", "live", "state"] (sp_lstep K C L) := by
  refine F.ok sc_law_step (fun vs H Q E h => ?_) (fun cdv A outer s H vs Q E hr h => ?_)
  · obtain ⟨g, l, pa, st, n, W, q0, q, log, rfl, _⟩ := h
    rfl
  obtain ⟨g, l, pa, st, n, W, q0, q, log, rfl, hC, hL, sW, wg, hg, hn, hv, hs, ⟨gl, gp, gs, ls, ps⟩, hB, hG, hl, hQ⟩ := h
  unfold cL at hn hQ
  refine ⟨_, PSs.nox (pss_cons (ps_asg (pv 2) (PgLst.pg_lstK (K := K) (n := 2) rfl (by rfl) (pgs_cons (PgLst.pg_lstK (K := K) (n := 3) rfl (by rfl) (pgs_cons (pg_name (i := 3) sc_law_step.nd rfl (by first | exact Or.inl rfl | exact Or.inr rfl)) (pgs_cons (pg_name (i := 4) sc_law_step.nd rfl (by first | exact Or.inl rfl | exact Or.inr rfl)) (pgs_cons (pg_name (i := 5) sc_law_step.nd rfl (by first | exact Or.inl rfl | exact Or.inr rfl)) pgs_nil)))) (pgs_cons (pg_name (i := 6) sc_law_step.nd rfl (by first | exact Or.inl rfl | exact Or.inr rfl)) pgs_nil))))
    (pss_cons (ps_par (i := 7) (j := 8) (by rfl) sc_law_step.nd rfl rfl (by decide) rfl rfl (pa_cons (pe_call G_law_random (hr.mono (by omega)) rfl g_law_random k_law_random b_law_random .nil pass0 (pa_cons (pv 0) (pa_cons pe_int pa_nil))) (pa_cons (pe_ix (show IxR _ (rIxL K) from ix_list) (pv 4) (pe_call G_law_random (hr.mono (by omega)) rfl g_law_random k_law_random b_law_random .nil pass0 (pa_cons (pv 0) (pa_cons (pe_callB (show CallR _ (.builtin "len") (Rd.rLn K) from Rd.c_len) (by rfl) T.m_len boot_len (pa_cons (pv 4) pa_nil)) pa_nil))) (fun _ _ => rfl)) pa_nil)) (by rfl))
    (pss_cons (ps_set (i := 9) sc_law_step.nd rfl (by first | exact Or.inl rfl | exact Or.inr rfl) (pe_ix (show IxR _ (rIxL K) from ix_list) (pv 3) (pe_call G_law_random (hr.mono (by omega)) rfl g_law_random k_law_random b_law_random .nil pass0 (pa_cons (pv 0) (pa_cons (pe_callB (show CallR _ (.builtin "len") (Rd.rLn K) from Rd.c_len) (by rfl) T.m_len boot_len (pa_cons (pv 3) pa_nil)) pa_nil))) (fun _ _ => rfl)))
    (pss_cons (ps_if (PW.pt (pw_and (pt_cmpR op_eq (pv 7) pe_int (nomark _)) (pw_and1 (pt_cmpR (show OpR _ (compareOp .NotEq) (PgLst.rLst0n K) from PgLst.op_lst0n hr.units0) (pv 6) (pe_lst pa_nil) (nomark _))))) (pss_cons (ps_expr (pe_meth0 (pv 1) c_Live m_Live_back G_Live_back (hr.mono (by omega)) b_Live_back .nil pass0))
    (pss_cons (ps_asg (pe_tup (pa_cons (pe_ix (show IxR _ (rIxT K) from ix_tup) (pe_ix (show IxR _ (rIxL K) from ix_list) (pv 6) (pe_un un_neg pe_int) (fun _ _ => rfl)) pe_int (fun _ _ => rfl)) (pa_cons (pe_slice (show L2.SlR _ (rSlL K) from sl_list) (pv 6) po_none (po_some (pe_un un_neg pe_int))) pa_nil))) (Rd.pg_tupK (K := K) (n := 2) rfl (by rfl) (pgs_cons (pg_sub (pv 2) pe_int set_list) (pgs_cons (pg_sub (pv 2) pe_int set_list) pgs_nil))))
    (pss_one ps_retN))) pss_nil)
    (pss_cons (ps_set (i := 10) sc_law_step.nd rfl (by first | exact Or.inl rfl | exact Or.inr rfl) (pe_lst (pa_cons (pv 3) (pa_cons (pv 4) (pa_cons (pv 5) pa_nil)))))
    (pss_cons (ps_if (pt_cmpR op_lt (pv 7) pe_int (nomark _)) (pss_cons (ps_asg (pv 8) (Rd.pg_tupK (K := K) (n := 2) rfl (by rfl) (pgs_cons (pg_name (i := 11) sc_law_step.nd rfl (by first | exact Or.inl rfl | exact Or.inr rfl)) (pgs_cons (pg_name (i := 12) sc_law_step.nd rfl (by first | exact Or.inl rfl | exact Or.inr rfl)) pgs_nil))))
    (pss_cons (ps_if (pt_cmpR (show OpR _ (compareOp .In) (rIn K false) from op_in_seq) (pv 9) (pv 12) (by rfl)) (pss_cons (ps_expr (pe_meth (pv 1) c_Live m_Live_revoke G_Live_revoke (hr.mono (by omega)) b_Live_revoke .nil pass0 (pa_cons (pv 11) (pa_cons (pv 9) pa_nil))))
    (pss_one (ps_asg (pe_tup (pa_cons (pe_tup (pa_cons pe_str (pa_cons (pv 11) (pa_cons (pv 9) pa_nil)))) (pa_cons (pe_lc (own := [("one", 17)]) (g := gName 17) rfl sc_law_step.nd (Rd.pi_listK (K := K) rfl (pv 12)) (blkOk_by (N := N_law_step) (sc := defScope s_law_step) (by decide +kernel)) (fun _ _ _ _ _ => pg_name (i := 17) sc_law_step.nd rfl (Or.inl rfl)) (fun _ _ _ _ _ => (pts_one (pt_cmpR op_ne (pv 17) (pv 9) (nomark _)))) (fun _ _ _ _ _ => (pv 17))) pa_nil))) (Rd.pg_tupK (K := K) (n := 2) rfl (by rfl) (pgs_cons (pg_name (i := 13) sc_law_step.nd rfl (by first | exact Or.inl rfl | exact Or.inr rfl)) (pgs_cons (pg_name (i := 14) sc_law_step.nd rfl (by first | exact Or.inl rfl | exact Or.inr rfl)) pgs_nil)))))) (pss_cons (ps_expr (pe_meth (pv 1) c_Live m_Live_grant G_Live_grant (hr.mono (by omega)) b_Live_grant .nil pass0 (pa_cons (pv 11) (pa_cons (pv 9) pa_nil))))
    (pss_one (ps_asg (pe_tup (pa_cons (pe_tup (pa_cons pe_str (pa_cons (pv 11) (pa_cons (pv 9) pa_nil)))) (pa_cons (pe_op (show OpR _ (binaryOp .Add) (CatS.rCatS K) from CatS.op_catS) (pv 12) (pe_lst (pa_cons (pv 9) pa_nil))) pa_nil))) (Rd.pg_tupK (K := K) (n := 2) rfl (by rfl) (pgs_cons (pg_name (i := 13) sc_law_step.nd rfl (by first | exact Or.inl rfl | exact Or.inr rfl)) (pgs_cons (pg_name (i := 14) sc_law_step.nd rfl (by first | exact Or.inl rfl | exact Or.inr rfl)) pgs_nil)))))))
    (pss_one (ps_asg (pe_lc (own := [("one", 17), ("old", 18)]) rfl sc_law_step.nd (Rd.pi_listK (K := K) rfl (pv 4)) (blkOk_by (N := N_law_step) (sc := defScope s_law_step) (by decide +kernel)) (fun _ _ _ _ _ => (Rd.pg_tupK (K := K) (n := 2) rfl (by rfl) (pgs_cons (pg_name (i := 17) sc_law_step.nd rfl (Or.inl rfl)) (pgs_cons (pg_name (i := 18) sc_law_step.nd rfl (Or.inl rfl)) pgs_nil)))) (fun _ _ _ _ _ => pts_nil) (fun _ _ _ _ _ => (pe_tup (pa_cons (pv 17) (pa_cons (pe_ifExp (pt_cmpR op_eq (pv 17) (pv 11) (nomark _)) (pv 14) (pv 18)) pa_nil))))) (pg_sub (pv 10) pe_int set_list))))) (pss_cons (ps_setLc (i := 15) (own := [("name", 11), ("some", 12), ("body", 16)]) rfl sc_law_step.nd rfl rfl (sw_true rfl rfl rfl (by decide +kernel)) (Rd.pi_listK (K := K) rfl (pv 5)) (blkOk_by (N := N_law_step) (sc := defScope s_law_step) (by decide +kernel)) (fun _ _ _ _ _ => (Rd.pg_tupK (K := K) (n := 3) rfl (by rfl) (pgs_cons (pg_name (i := 11) sc_law_step.nd rfl (Or.inl rfl)) (pgs_cons (pg_name (i := 12) sc_law_step.nd rfl (Or.inl rfl)) (pgs_cons (pg_name (i := 16) sc_law_step.nd rfl (Or.inl rfl)) pgs_nil))))) (fun _ _ _ _ _ => pts_nil) (fun _ _ _ _ _ => (pv 11)))
    (pss_cons (ps_asg (pe_tup (pa_cons (pe_ix (show IxR _ (rIxL K) from ix_list) (pv 15) (pe_call G_law_random (hr.mono (by omega)) rfl g_law_random k_law_random b_law_random .nil pass0 (pa_cons (pv 0) (pa_cons (pe_callB (show CallR _ (.builtin "len") (Rd.rLn K) from Rd.c_len) (by rfl) T.m_len boot_len (pa_cons (pv 15) pa_nil)) pa_nil))) (fun _ _ => rfl)) (pa_cons (pe_call G_law_body_drawn (hr.mono (by omega)) rfl g_law_body_drawn k_law_body_drawn b_law_body_drawn .nil pass0 (pa_cons (pv 0) (pa_cons (pv 3) (pa_cons (pv 15) (pa_cons pe_int (pa_cons pe_bl (pa_cons pe_int pa_nil))))))) pa_nil))) (Rd.pg_tupK (K := K) (n := 2) rfl (by rfl) (pgs_cons (pg_name (i := 11) sc_law_step.nd rfl (by first | exact Or.inl rfl | exact Or.inr rfl)) (pgs_cons (pg_name (i := 16) sc_law_step.nd rfl (by first | exact Or.inl rfl | exact Or.inr rfl)) pgs_nil))))
    (pss_cons (ps_expr (pe_meth (pv 1) c_Live m_Live_rewrite G_Live_rewrite (hr.mono (by omega)) b_Live_rewrite .nil pass0 (pa_cons (pv 11) (pa_cons (pe_call G_law_copied (hr.mono (by omega)) rfl g_law_copied k_law_copied b_law_copied .nil pass0 (pa_cons (pv 16) pa_nil)) pa_nil))))
    (pss_cons (ps_set (i := 13) sc_law_step.nd rfl (by first | exact Or.inl rfl | exact Or.inr rfl) (pe_tup (pa_cons pe_str (pa_cons (pv 11) (pa_cons (pv 16) pa_nil)))))
    (pss_one (ps_asg (pe_lc (own := [("one", 17), ("some", 12), ("old", 18)]) rfl sc_law_step.nd (Rd.pi_listK (K := K) rfl (pv 5)) (blkOk_by (N := N_law_step) (sc := defScope s_law_step) (by decide +kernel)) (fun _ _ _ _ _ => (Rd.pg_tupK (K := K) (n := 3) rfl (by rfl) (pgs_cons (pg_name (i := 17) sc_law_step.nd rfl (Or.inl rfl)) (pgs_cons (pg_name (i := 12) sc_law_step.nd rfl (Or.inl rfl)) (pgs_cons (pg_name (i := 18) sc_law_step.nd rfl (Or.inl rfl)) pgs_nil))))) (fun _ _ _ _ _ => pts_nil) (fun _ _ _ _ _ => (pe_tup (pa_cons (pv 17) (pa_cons (pv 12) (pa_cons (pe_ifExp (pt_cmpR op_eq (pv 17) (pv 11) (nomark _)) (pv 16) (pv 18)) pa_nil)))))) (pg_sub (pv 10) pe_int set_list))))))))
    (pss_cons (ps_asg (pe_op (show OpR _ (binaryOp .Add) (CatS.rCatS K) from CatS.op_catS) (pv 6) (pe_lst (pa_cons (pe_tup (pa_cons (pv 13) (pa_cons (pe_ix (show IxR _ (rIxL K) from ix_list) (pv 2) pe_int (fun _ _ => rfl)) pa_nil))) pa_nil))) (pg_sub (pv 2) pe_int set_list))
    (pss_one (ps_asg (pv 10) (pg_sub (pv 2) pe_int set_list)))))))))), ?_⟩
  obtain ⟨T0, S0, hst, wst, hT, hS⟩ := id hs
  obtain ⟨_, R, O, F0, e0, hTs, dR, dO, dF⟩ := parts_inv hT
  cases e0
  obtain ⟨_, sx, e0, hSs, hSx⟩ := lst_inv hS
  cases e0
  obtain ⟨_, e0, hRs⟩ := rig_inv dR
  cases e0
  obtain ⟨_, ox, e0, hOs, hOx⟩ := lst_inv dO
  cases e0
  obtain ⟨_, fx, e0, hFs, hFx⟩ := lst_inv dF
  cases e0
  have ft := hG.h.f
  have lo := dqAll_len hOx
  rw [List.length_map] at lo
  have lf := dqAll_len hFx
  rw [List.length_map] at lf
  have f1 := ft.o0
  have f2 := ft.o1
  have f3 := ft.r0
  have f4 := ft.r1
  have f5 := ft.f0
  have f6 := ft.f1
  walk_at "rd"
  refine PgLst.tgl (PgLst.lgAt (.inl (.inl hst)) rfl ?_)
  walk_at "rd"
  refine PgLst.tgl (PgLst.lgAt (sW.seq hTs) rfl ?_)
  walk_at "rd"
  refine rnd hg (by omega) (fun kd H1 lt1 b1 g1 => ?_)
  have s1 := b1.same sW wg
  walk_at "rd"
  refine Rd.lnL (s1.seq hOs) ?_
  rw [lo]
  walk_at "rd"
  refine rnd g1 (by omega) (fun a2 H2 lt2 b2 g2 => ?_) (by omega) (by omega)
  have s2 := b2.same s1 wg
  obtain ⟨xo, hxo⟩ : ∃ x, ox[a2]? = some x := ⟨_, List.getElem?_eq_getElem (by omega)⟩
  obtain ⟨o, ho, dxo⟩ := ds_get hOx hxo
  obtain ⟨to, lw, rfl, hto, hlw⟩ := own_inv dxo
  refine Rd.ixL (s2.seq hOs) (atI_nat hxo) ?_
  walk_at "rd"
  refine Rd.lnL (s2.seq hRs) ?_
  rw [List.length_map]
  walk_at "rd"
  refine rnd g2 (by omega) (fun a3 H3 lt3 b3 g3 => ?_) (by omega) (by omega)
  have s3 := b3.same s2 wg
  obtain ⟨r, hr3⟩ : ∃ r, q.rs[a3]? = some r := ⟨_, List.getElem?_eq_getElem (by omega)⟩
  refine Rd.ixL (v := .str r) (s3.seq hRs) (atI_nat (by rw [List.getElem?_map, hr3]; rfl)) ?_
  have hrr : r ∈ q.rs := List.mem_of_getElem? hr3
  have hon : (o.1, o.2) ∈ q.os := List.mem_of_getElem? ho
  have b13 : But g H H3 := (b1.trans b2).trans b3
  have al3 := b13.alive g3
  have lv3 : LvAt K C L W H3 l pa q log := hv.keep Grow.refl (fun o e => b13 l o (Ne.symm gl) e) (fun o e => b13 pa o (Ne.symm gp) e)
  have st3 : H3 st = some (.lst [.ref T0, .ref S0]) := b13 st _ (Ne.symm gs) hst
  walk_at "rd"
  refine Rd.eq_ rfl (Rd.bl ?_)
  refine' both (S := Same H3) _ ?rest ?main
  case main =>
    intro rest
    by_cases k0 : (V.int (kd : Int)) = V.int 0
    · refine Rd.brT (decide_eq_true k0) ?_
      walk_at "rd"
      refine mkLs fun e H4 n4 s4 e4 => ?_
      refine PgLst.at_ ((s3.trans s4).seq hSs) (.inl (.inl e4)) (Rd.bl ?_)
      rcases List.eq_nil_or_concat log with rfl | ⟨log', ⟨d, q'⟩, e9⟩
      · cases hSx
        refine Rd.brF rfl ?_
        exact rest _ s4
      · rw [List.concat_eq_append] at e9
        subst e9
        obtain ⟨ys, t, x, T', rfl, hys, ht, hxd, hT'⟩ := steps_last hSx
        refine Rd.brT (by cases ys <;> rfl) ?_
        have s04 := s3.trans s4
        have al4 := al_trans al3 (Same.alive s4)
        have lv4 : LvAt K C L W H4 l pa q (log' ++ [(d, q')]) := lv3.keep Grow.refl (fun o e => s4 _ _ e) (fun o e => s4 _ _ e)
        obtain ⟨dxl, p, xs, h1, h2, h3, h4, h5, _⟩ := id lv4
        walk_at "rd"
        refine Rd.methAt h1 rfl ?_
        walk_at "rd"
        refine ⟨l, pa, W, q, q', log', d, rfl, hL, s04, lv4, fun W5 H5 b5 gr5 sW5 lv5 => ?_⟩
        have nT : ∀ y o, W y = some o → ¬ Two l pa y := fun y o e z => by
          rcases z with z | z
          · rw [z, h4] at e; cases e
          · rw [z, h5] at e; cases e
        have s05 : Same W H5 := gr5.s.trans sW5
        have al5 := al_trans al4 (b5.alive lv5)
        have st5 : H5 st = some (.lst [.ref T0, .ref S0]) := b5 st _ (fun z => z.elim (fun z => ls z.symm) fun z => ps z.symm) (s4 _ _ st3)
        walk_at "rd"
        refine Rd.ixL (s05.seq hSs) (atI_last _ _) ?_
        walk_at "rd"
        refine Rd.ixT (sqT_same s05 ht) at1 ?_
        walk_at "rd"
        refine slNew (s05.seq hSs) fun p6 H6 n6 s6 e6 => ?_
        rw [cut_init, List.dropLast_concat] at e6
        walk_at "rd"
        refine mkTs fun T7 H7 n7 s7 e7 => ?_
        have st7 : H7 st = some (.lst [.ref T0, .ref S0]) := s7 _ _ (s6 _ _ st5)
        refine Rd.tgt (Rd.tgAt (.inl (.inl e7)) rfl ?_)
        walk_at "rd"
        have p0 : H p6 = none := none_of al5 n6
        have w5p : W5 p6 = none := same_none sW5 n6
        have g9 : Grow W (upd W5 p6 (.lst ys)) H := (gr5.al al4).put p0 w5p
        have w9s : upd W5 p6 (.lst ys) st = none := g9.n st _ hst wst
        have p6st : p6 ≠ st := fun z => by rw [z, st5] at n6; cases n6
        refine hQ (upd W5 p6 (.lst ys)) _ q' log' (fun y o n e => ?_) g9 (fun y o e => ?_) ?_ ?_ ⟨T', p6, upd_same, w9s, ?_, ?_⟩ hG.pop (by rw [List.length_append]; omega)
        · have n1 : y ≠ st := fun z => n (.inr (.inr (.inr z)))
          refine (upd_ne n1).trans ((upd_ne n1).trans (s7 _ _ (s6 _ _ (b5 y o (fun z => n (z.elim (fun z => .inr (.inl z)) fun z => .inr (.inr (.inl z)))) (s4 _ _ (b13 y o (fun z => n (.inl z)) e))))))
        · have n1 : y ≠ st := fun z => by rw [z, w9s] at e; cases e
          exact (upd_ne n1).trans ((upd_ne n1).trans (same_put (sW5.trans (s6.trans s7)) (s7 _ _ e6) y o e))
        · refine (g3.at_ fun o e => ?_).less (by omega)
          refine (upd_ne gs).trans ((upd_ne gs).trans (s7 _ _ (s6 _ _ (b5 g o (fun z => z.elim gl gp) (s4 _ _ e)))))
        · exact lv5.keep ((Grow.refl (W := W5) (H := H5)).put n6 w5p) (fun o e => (upd_ne ls).trans ((upd_ne ls).trans (s7 _ _ (s6 _ _ e)))) (fun o e => (upd_ne ps).trans ((upd_ne ps).trans (s7 _ _ (s6 _ _ e))))
        · exact Dq.same (gr5.s.trans (same_upd w5p)) _ _ hT'
        · exact .lst (.inl (.inl upd_same)) (Dq.sameAll (gr5.s.trans (same_upd w5p)) _ _ hys)
    · refine Rd.brF (decide_eq_false k0) ?_
      exact Rd.brF rfl (rest _ (Same.refl H3))
  case rest =>
    intro H4 s4
    have s04 := s3.trans s4
    refine toS (σ' := [some (.ref g), some (.ref l), some (.ref st), some (.ref R), some (.ref O), some (.ref F0), some (.ref S0), some (.int kd), some (.ref to), some (.str r), none, none, none, none, none, none, none, none, none]) rfl ?_
    walk_at "rd"
    refine mkLs fun A H5 n5 s5 e5 => ?_
    have s05 := s04.trans s5
    have s35 := s4.trans s5
    have al5 := al_trans al3 (Same.alive s35)
    have lv5 : LvAt K C L W H5 l pa q log := lv3.keep Grow.refl (fun o e => s35 _ _ e) (fun o e => s35 _ _ e)
    obtain ⟨dxl, p, xs, h1, h2, h3, h4, h5, _⟩ := id lv5
    obtain ⟨dxl0, p0, xs0, h10, h20, _⟩ := id hv
    have st5 : H5 st = some (.lst [.ref T0, .ref S0]) := s35 _ _ st3
    have A4 : H A = none := none_of (al_trans al3 (Same.alive s4)) n5
    have wA : W A = none := same_none s04 n5
    have Al : A ≠ l := (ne_of_none h10 A4).symm
    have Apa : A ≠ pa := (ne_of_none h20 A4).symm
    have Ast : A ≠ st := (ne_of_none hst A4).symm
    have Ag : A ≠ g := by
      obtain ⟨ob, eg⟩ := hg.got
      exact (ne_of_none eg A4).symm
    -- behind the deed: rows are at A, then the state is set
    have fin : ∀ (W6 H6 W7 H7 : Hp) (x y z : V) (d : PyData) (dv : V) (q' : Parts) (σ : L2.St), σ[2]? = some (some (.ref st)) → σ[6]? = some (some (.ref S0)) → σ[10]? = some (some (.ref A)) → σ[13]? = some (some dv) →
        (∀ b o, ¬ Four g l pa st b → H b = some o → H6 b = some o) → (∀ x o, H x = some o → ∃ u, H6 x = some u) → H6 st = some (.lst [.ref T0, .ref S0]) → GenAt H6 g (n - 100) → LvAt K C L W6 H6 l pa q' (log ++ [(d, q)]) → Same W6 W7 → Grow W W7 H → (∀ b o, b ≠ A → H6 b = some o → H7 b = some o) → Same W7 H7 → H7 A = some (.lst [x, y, z]) → W7 A = none →
        Dq K W7 x (rigD q'.rs) → Dq K W7 y (ownD q'.os) → Dq K W7 z (funD q'.fs) → Dq K W7 dv d → Good q0 q' (log ++ [(d, q)]) → tailT K { nx := fun _ H' => Q .non H', rt := Q } σ H7 := by
      intro W6 H6 W7 H7 x y z d dv q' σ i2 i6 i10 i13 b6 al6 st6 g6 lv6 s67 g07 k7 s7 a7 w7A dx dy dz dd gd
      have al7 : ∀ x o, H x = some o → ∃ u, H7 x = some u := fun x o e => by
        obtain ⟨u, hu⟩ := al6 x o e
        exact ⟨u, k7 x u (ne_of_none e A4) hu⟩
      refine tail_ i2 i6 i10 i13 al7 g07 s7 (k7 _ _ (Ne.symm Ast) st6) (g07.n _ _ hst wst) (Dq.same g07.s _ _ hT) (Dq.same g07.s _ _ hS) a7 w7A A4 dx dy dz dd Ast (by omega) (fun W8 H8 k8 g8 s78 s8 st8 => ?_)
      obtain ⟨dxl6, p6, xs6, h16, h26, _⟩ := id lv6
      refine hQ W8 H8 q' _ (fun y o n e => ?_) g8 s8 ?_ ?_ st8 gd (by rw [List.length_append]; exact Nat.le_refl _)
      · exact k8 y o (fun z => n (.inr (.inr (.inr z)))) (k7 y o (ne_of_none e A4) (b6 y o n e))
      · exact g6.at_ fun o e => k8 g o gs (k7 g o (Ne.symm Ag) e)
      · exact lv6.keep2 (s67.trans s78) (g8.n l _ h10 h4) (g8.n pa _ h20 h5) (fun o e => k8 l o ls (k7 l o (Ne.symm Al) e)) (fun o e => k8 pa o ps (k7 pa o (Ne.symm Apa) e))
    have two4 : ∀ y o, ¬ Four g l pa st y → H y = some o → ¬ Two l pa y := fun y o n e z => n (z.elim (fun z => .inr (.inl z)) fun z => .inr (.inr (.inl z)))
    have stT : ¬ Two l pa st := fun z => z.elim (fun z => ls z.symm) fun z => ps z.symm
    have gT : ¬ Two l pa g := fun z => z.elim gl gp
    have AT : ¬ Two l pa A := fun z => z.elim Al Apa
    walk_at "rd"
    refine Rd.br (fun c3 => ?_) fun c3 => ?_
    · walk_at "rd"
      refine Rd.tgt (Rd.tgAt (sqT_same s05 hto) rfl ?_)
      walk_at "rd"
      have fin1 : ∀ (W6 H6 H7 : Hp) (M : Addr) (more : List Str) (W7 : Hp) (d : PyData) (dv : V) (q' : Parts), ButS (Two l pa) H5 H6 → Grow W W6 H5 → LvAt K C L W6 H6 l pa q' (log ++ [(d, q)]) → Same H6 H7 → Grow W6 W7 H6 → Same W7 H7 → SqL K W7 M (more.map V.str) → Dq K W7 dv d →
          (q.os.map fun o' => (o'.1, if o'.1 = o.1 then more else o'.2)) = q'.os → q'.rs = q.rs → q'.fs = q.fs → Good q0 q' (log ++ [(d, q)]) →
          rows1T K { nx := fun σ H => tailT K { nx := fun _ H' => Q .non H', rt := Q } σ H, rt := Q } [some (.ref g), some (.ref l), some (.ref st), some (.ref R), some (.ref O), some (.ref F0), some (.ref S0), some (.int kd), some (.ref to), some (.str r), some (.ref A), some (.str o.1), some (.ref lw), some dv, some (.ref M), none, none, none, none] H7 := by
        intro W6 H6 H7 M more W7 d dv q' b6 g6 lv6 s67 g67 s7 hM hd eo er ef gd
        have hA6 : H6 A = some (.lst [.ref R, .ref O, .ref F0]) := b6 A _ AT e5
        have wA6 : W6 A = none := g6.n A _ e5 wA
        have wA7 : W7 A = none := g67.n A _ hA6 wA6
        have al56 := b6.alive lv6
        have al6 := al_trans al5 al56
        refine rows1_ s7 (Dq.same (g6.s.trans g67.s) _ _ dO) hM (s67 _ _ hA6) wA7 (by omega) (fun T8 W8 H8 k8 g78 s8 a8 d8 => ?_)
        rw [eo] at d8
        have g58 : Grow W W8 H5 := (g6.trans g67 al56).trans g78 (al_trans al56 (Same.alive s67))
        refine fin W6 H6 W8 H8 _ _ _ d dv q' _ rfl rfl rfl rfl (fun b o n e => b6 b o (two4 b o n e) (s35 _ _ (b13 b o (fun z => n (.inl z)) e))) al6 (b6 st _ stT st5) ((g3.at_ fun o e => b6 g o gT (s35 _ _ e)).less (by omega)) lv6 (g67.s.trans g78.s) (g58.al al5) (fun b o n e => k8 b o n (s67 _ _ e)) s8 a8 (g78.n A _ (s67 _ _ hA6) wA7) ?_ d8 ?_ (Dq.same g78.s _ _ hd) gd
        · rw [er]; exact Dq.same g58.s _ _ dR
        · rw [ef]; exact Dq.same g58.s _ _ dF
      refine inStr (s05.seq hlw) (Rd.bl ?_)
      by_cases c : r ∈ o.2
      · refine Rd.brT (by rw [if_neg Bool.false_ne_true, decide_eq_true c]) ?_
        walk_at "rd"
        refine Rd.methAt h1 rfl ?_
        walk_at "rd"
        refine ⟨l, pa, o.1, r, o.2, W, q, log, rfl, hC, hL, s05, lv5, hon, c, by omega, fun W6 H6 b6 g6 s6 lv6 => ?_⟩
        refine toS (σ' := [some (.ref g), some (.ref l), some (.ref st), some (.ref R), some (.ref O), some (.ref F0), some (.ref S0), some (.int kd), some (.ref to), some (.str r), some (.ref A), some (.str o.1), some (.ref lw), none, none, none, none, none, none]) rfl ?_
        walk_at "rd"
        refine mkTs fun t7 H7 n7 s7 e7 => ?_
        walk_at "rd"
        obtain ⟨u1, u2, u3⟩ := newW (Grow.refl (W := W6) (H := H6)) (Same.refl H6) s6 n7 s7 e7
        have hlw7 : SqL K H7 lw (o.2.map V.str) := s7.seq (s6.seq (g6.s.seq hlw))
        have lo2 := (ft.oo o (List.mem_of_getElem? ho)).2.2.2
        refine Rd.l1 hlw7 fun D8 hD8 => ?_
        refine keepStrs (fun x => !decide (x = r)) hlw7 hD8 (by omega) (fun x => rfl) (fun x H' R' hx hR => ?_) (fun x H' Q' h => ⟨_, rfl, h⟩) fun H8 s8 e8 => ?_
        · walk_at "rd"
          refine Rd.ne_ rfl (Rd.bl ?_)
          by_cases c2 : x = r
          · rw [decide_eq_true c2] at hR
            rw [decide_eq_true (by rw [c2])]
            exact hR
          · rw [decide_eq_false c2] at hR
            rw [decide_eq_false (fun z => c2 (by injection z))]
            exact hR
        walk_at "rd"
        refine mkTs fun t9 H9 n9 s9 e9 => ?_
        obtain ⟨v1, v2, v3⟩ := newW u1 s7 u2 hD8 s8 e8
        refine Rd.tgt (Rd.tgAt (.inl (.inl e9)) rfl ?_)
        refine Rd.gcons (Rd.name (Rd.gcons (Rd.name (Rd.gnil ?_))))
        exact fin1 W6 H6 H9 D8 _ _ (.tuple [.str "revoke", .str o.1, .str r]) (.ref t7) (revokeP q o.1 r) b6 g6 lv6 ((s7.trans s8).trans s9) v1 (v2.trans s9) (.inl (.inl upd_same)) (.tup (.inl (.inl (v3 _ _ upd_same))) (.cons (.str _) (.cons (.str _) (.cons (.str _) .nil))))
          (revoke_os ft hon) rfl rfl (hG.snoc (like_revoke hG.h) (.inl ⟨"revoke", o.1, r, .inr rfl, hB.o _ (by rw [← hG.h.o]; exact List.mem_map.mpr ⟨_, hon, rfl⟩), hB.r _ (by rw [← hG.h.r]; exact hrr), rfl⟩))
      · refine Rd.brF (by rw [if_neg Bool.false_ne_true, decide_eq_false c]) ?_
        walk_at "rd"
        refine Rd.methAt h1 rfl ?_
        walk_at "rd"
        refine ⟨l, pa, o.1, r, o.2, W, q, log, rfl, hC, hL, s05, lv5, hon, hrr, c, by omega, fun W6 H6 b6 g6 s6 lv6 => ?_⟩
        refine toS (σ' := [some (.ref g), some (.ref l), some (.ref st), some (.ref R), some (.ref O), some (.ref F0), some (.ref S0), some (.int kd), some (.ref to), some (.str r), some (.ref A), some (.str o.1), some (.ref lw), none, none, none, none, none, none]) rfl ?_
        walk_at "rd"
        refine mkTs fun t7 H7 n7 s7 e7 => ?_
        walk_at "rd"
        obtain ⟨u1, u2, u3⟩ := newW (Grow.refl (W := W6) (H := H6)) (Same.refl H6) s6 n7 s7 e7
        have lo2 := (ft.oo o (List.mem_of_getElem? ho)).2.2.2
        refine mkLs fun e8 H8 n8 s8 q8 => ?_
        refine CatS.at_ ((s7.trans s8).seq (s6.seq (g6.s.seq hlw))) (.inl (.inl q8)) (fun c9 n9 => ?_) (by rw [List.length_map]; show o.2.length + 1 ≤ 1000; omega)
        have ez : o.2.map V.str ++ [V.str r] = (o.2 ++ [r]).map V.str := by rw [List.map_append]; rfl
        rw [ez]
        have s9 := same_upd (o := HO.lst ((o.2 ++ [r]).map V.str)) n9
        obtain ⟨v1, v2, v3⟩ := newW u1 (s7.trans s8) (u2.trans s8) n9 s9 upd_same
        walk_at "rd"
        refine mkTs fun t10 H10 n10 s10 e10 => ?_
        refine Rd.tgt (Rd.tgAt (.inl (.inl e10)) rfl ?_)
        refine Rd.gcons (Rd.name (Rd.gcons (Rd.name (Rd.gnil ?_))))
        have fg : Fits (grantP q o.1 r) := fits_grant ft hrr fun o' ho' e' => by
          have := own_uniq ft.od (show (o.1, o'.2) ∈ q.os by rw [← e']; exact ho') hon
          rw [this]; exact c
        exact fin1 W6 H6 H10 c9 _ _ (.tuple [.str "grant", .str o.1, .str r]) (.ref t7) (grantP q o.1 r) b6 g6 lv6 (((s7.trans s8).trans s9).trans s10) v1 (v2.trans s10) (.inl (.inl upd_same)) (.tup (.inl (.inl (v3 _ _ upd_same))) (.cons (.str _) (.cons (.str _) (.cons (.str _) .nil))))
          (grant_os ft hon) rfl rfl (hG.snoc (like_grant hG.h fg) (.inl ⟨"grant", o.1, r, .inl rfl, hB.o _ (by rw [← hG.h.o]; exact List.mem_map.mpr ⟨_, hon, rfl⟩), hB.r _ (by rw [← hG.h.r]; exact hrr), rfl⟩))
    · walk_at "rd"
      refine Rd.l1 (s05.seq hFs) fun N6 n6 => ?_
      refine Rd.byCL (xs := fx) (fun i H' => Same H5 H' ∧ H' N6 = some (.lst ((q.fs.take i).map fun f => V.str f.1))) ⟨same_upd n6, upd_same⟩ (fun i H' hi h => h.1.seq (s05.seq hFs)) (fun i x H' hi h => ?_) (fun H6 h => ?_)
      · obtain ⟨t1, t2⟩ := h
        obtain ⟨f, hf, hx⟩ := ds_get hFx hi
        obtain ⟨ta, y, rfl, hta, hy⟩ := fun_inv hx
        refine turn3 (sqT_same (s05.trans t1) hta) rfl ⟨_, rfl, ?_⟩
        refine Rd.acc t2 (take_len (by omega)) ⟨fun z u e => (upd_ne (ne_of_none e n6)).trans (t1 _ _ e), ?_⟩
        rw [upd_same, take_map hf]
      obtain ⟨t1, t2⟩ := h
      rw [lf, List.take_length] at t2
      have t2 : H6 N6 = some (.lst ((q.fs.map (·.1)).map V.str)) := by rw [t2, List.map_map]; rfl
      obtain ⟨u1, u2, u3⟩ := newW (Grow.refl (W := W) (H := H5)) (Same.refl H5) s05 n6 t1 t2
      have N6g : N6 ≠ g := (g3.same s35).ne n6
      have w6g : upd W N6 (.lst ((q.fs.map (·.1)).map V.str)) g = none := (upd_ne (Ne.symm N6g)).trans wg
      refine Rd.name ?_
      refine toS (σ' := [some (.ref g), some (.ref l), some (.ref st), some (.ref R), some (.ref O), some (.ref F0), some (.ref S0), some (.int kd), some (.ref to), some (.str r), some (.ref A), none, none, none, none, some (.ref N6), none, none, none]) rfl ?_
      walk_at "rd"
      refine Rd.lnL (.inl (.inl t2)) ?_
      rw [List.length_map, List.length_map]
      walk_at "rd"
      refine rnd ((g3.same s35).same t1) (by omega) (fun a7 H7 lt7 b7 g7 => ?_) (by omega) (by omega)
      have s7 := b7.same u2 w6g
      obtain ⟨nm, hnm⟩ : ∃ x, (q.fs.map (·.1))[a7]? = some x := ⟨_, List.getElem?_eq_getElem (by rw [List.length_map]; omega)⟩
      have inN := List.mem_of_getElem? hnm
      refine Rd.ixL (v := .str nm) (.inl (.inl (s7 _ _ upd_same))) (atI_nat (by rw [List.getElem?_map, hnm]; rfl)) ?_
      walk_at "rd"
      refine ⟨g, R, N6, false, 3, _, _, q.rs, q.fs.map (·.1), rfl, by decide, ⟨s7, w6g, u3.seq hRs, .inl (.inl upd_same), by omega, by rw [List.length_map]; omega, by omega, by rw [List.length_map]; omega, (by show 1 + 3 * (8 + 4 * 4) ≤ _; omega), g7⟩, fun b T8 W8 H8 ok8 dp8 cn8 b8 gr8 sW8 g8 d8 n8 => ?_⟩
      have cn8 : b.cnt ≤ 15 := cn8
      have b58 : But g H5 H8 := ((But.of t1).trans b7).trans b8
      have al58 : ∀ x o, H5 x = some o → ∃ u, H8 x = some u := b58.alive g8
      have g58 : Grow W W8 H5 := u1.trans gr8 (al_trans (Same.alive t1) (b7.alive g7))
      walk_at "rd"
      refine mkTs fun t9 H9 n9 s9 e9 => ?_
      refine Rd.tgt (Rd.tgAt (.inl (.inl e9)) rfl ?_)
      refine Rd.gcons (Rd.name (Rd.gcons (Rd.name (Rd.gnil ?_))))
      refine toS (σ' := [some (.ref g), some (.ref l), some (.ref st), some (.ref R), some (.ref O), some (.ref F0), some (.ref S0), some (.int kd), some (.ref to), some (.str r), some (.ref A), some (.str nm), none, none, none, some (.ref N6), some (.ref T8), none, none]) rfl ?_
      walk_at "rd"
      have lv9 : LvAt K C L W8 H9 l pa q log := lv5.keep g58 (fun o e => s9 _ _ (b58 l o (Ne.symm gl) e)) (fun o e => s9 _ _ (b58 pa o (Ne.symm gp) e))
      refine Rd.methAt (s9 _ _ (b58 l _ (Ne.symm gl) h1)) rfl ?_
      walk_at "rd"
      have wd8 : b.wide 500 := Bdy.wide_of _ (by omega)
      obtain ⟨w1, w2⟩ := bdy_wide wd8
      refine ⟨.ref T8, W8, b, rfl, sW8.trans s9, d8, by omega, w1, w2, fun T10 W10 H10 r1 r2 r3 r4 r5 => ?_⟩
      have lv10 : LvAt K C L W10 H10 l pa q log := lv9.keep r2 (fun o e => r1 _ _ e) (fun o e => r1 _ _ e)
      walk_at "rd"
      refine ⟨l, pa, nm, .ref T10, b, W10, q, log, rfl, hC, hL, r3, lv10, inN, r4, ok8, by omega, wd8, by omega, fun W11 H11 b11 g11 s11 lv11 => ?_⟩
      walk_at "rd"
      refine mkTs fun t12 H12 n12 s12 e12 => ?_
      have al5_10 : ∀ x o, H5 x = some o → ∃ u, H10 x = some u := al_trans al58 (Same.alive (s9.trans r1))
      have al5_11 := al_trans al5_10 (b11.alive lv11)
      have g5_10 : Grow W W10 H5 := g58.trans r2 (al_trans al58 (Same.alive s9))
      have g5_11 : Grow W W11 H5 := g5_10.trans g11 al5_10
      obtain ⟨v1, v2, v3⟩ := newW (Grow.refl (W := W11) (H := H11)) (Same.refl H11) s11 n12 s12 e12
      have g5_12 := g5_11.trans v1 al5_11
      have A11 : H11 A = some (.lst [.ref R, .ref O, .ref F0]) := b11 A _ AT (r1 _ _ (s9 _ _ (b58 A _ Ag e5)))
      have wA11 : W11 A = none := g5_11.n A _ e5 wA
      have wA12 := v1.n A _ A11 wA11
      have d12 : Dq K (upd W11 t12 (.tup [.str "rewrite", .str nm, .ref T8])) (.ref T8) b.d := Dq.same ((r2.s.trans g11.s).trans v3) _ _ d8
      refine Rd.name ?_
      refine toS (σ' := [some (.ref g), some (.ref l), some (.ref st), some (.ref R), some (.ref O), some (.ref F0), some (.ref S0), some (.int kd), some (.ref to), some (.str r), some (.ref A), some (.str nm), none, some (.ref t12), none, some (.ref N6), some (.ref T8), none, none]) rfl ?_
      walk_at "rd"
      refine Rd.l1 (v2.seq (g5_12.s.seq hFs)) fun D13 hD => ?_
      refine Rd.byCL (xs := fx) (fun i H' => Coll K (upd W11 t12 (.tup [.str "rewrite", .str nm, .ref T8])) (upd W11 t12 (.tup [.str "rewrite", .str nm, .ref T8])) H12 D13 H' ((q.fs.take i).map fun f => fd3 (f.1, f.2.1, if f.1 = nm then b else f.2.2))) (Coll.nil v2 hD) (fun i H' hi h => h.seen.seq (g5_12.s.seq hFs)) (fun i x H' hi h => ?_) (fun H14 h => ?_)
      · obtain ⟨W', its, c0, c1, c2, c3', c4, c5, c6⟩ := h
        obtain ⟨f, hf, hx⟩ := ds_get hFx hi
        obtain ⟨ta, y, rfl, hta, hy⟩ := fun_inv (Dq.same (g5_12.s.trans c0) _ _ hx)
        refine turn3 (sqT_same c2 hta) rfl ?_
        walk_at "rd"
        refine Rd.eq_ rfl (Rd.bl ?_)
        by_cases c : f.1 = nm
        · refine Rd.brT (by rw [c]; exact decide_eq_true rfl) ?_
          walk_at "rd"
          refine mkTs fun T6 H6 n6 s6 e6 => ?_
          obtain ⟨z1, z2, z3⟩ := newW Grow.refl (Same.refl H') c2 n6 s6 e6
          refine Coll.acc c0 c1 c3' c4 c5 c6 hD s6 z1 z2 ?_ (take_map hf) (take_len (by omega))
          exact .tup (.inl (.inl upd_same)) (.cons (.str _) (.cons (.str _) (.cons (by rw [if_pos c]; exact Dq.same (c0.trans z3) _ _ d12) .nil)))
        · refine Rd.brF (decide_eq_false fun z => c (by injection z)) ?_
          walk_at "rd"
          refine mkTs fun T6 H6 n6 s6 e6 => ?_
          obtain ⟨z1, z2, z3⟩ := newW Grow.refl (Same.refl H') c2 n6 s6 e6
          refine Coll.acc c0 c1 c3' c4 c5 c6 hD s6 z1 z2 ?_ (take_map hf) (take_len (by omega))
          exact .tup (.inl (.inl upd_same)) (.cons (.str _) (.cons (.str _) (.cons (by rw [if_neg c]; exact Dq.same z3 _ _ hy) .nil)))
      have h : Coll K (upd W11 t12 (.tup [.str "rewrite", .str nm, .ref T8])) (upd W11 t12 (.tup [.str "rewrite", .str nm, .ref T8])) H12 D13 H14 (q.fs.map fun f => fd3 (f.1, f.2.1, if f.1 = nm then b else f.2.2)) := by
        rw [lf, List.take_length] at h
        exact h
      obtain ⟨W14, x14, g14, sW14, s14, d14⟩ := Coll.done hD h
      have eD : PyData.list (q.fs.map fun f => fd3 (f.1, f.2.1, if f.1 = nm then b else f.2.2)) = funD (rewriteP q nm b).fs := by
        unfold funD rewriteP
        rw [List.map_map]; rfl
      rw [eD] at d14
      have A14 : H14 A = some (.lst [.ref R, .ref O, .ref F0]) := s14 _ _ (s12 _ _ A11)
      have wA14 : W14 A = none := g14.n A _ (s12 _ _ A11) wA12
      have al5_12 := al_trans al5_11 (Same.alive s12)
      have g5_14 : Grow W W14 H5 := g5_12.trans g14 al5_12
      have fw : Fits (rewriteP q nm b) := fits_rewrite (n := nm) ft ok8 (by omega) wd8
      refine Rd.sub (Rd.var rfl (Rd.con (Rd.setL A14 rfl ?_)))
      refine fin W11 H11 W14 _ _ _ _ (.tuple [.str "rewrite", .str nm, b.d]) (.ref t12) (rewriteP q nm b) _ rfl rfl rfl rfl (fun x o n e => ?_) (al_trans al5 al5_11) (b11 st _ stT (r1 _ _ (s9 _ _ (b58 st _ (Ne.symm gs) st5)))) ?_ lv11 (v3.trans g14.s) (g5_14.al al5) (fun x o n e => (upd_ne n).trans (s14 _ _ (s12 _ _ e))) (fun x o e => (upd_ne (fun z => by rw [z, wA14] at e; cases e)).trans (sW14 _ _ e)) upd_same wA14
        (Dq.same g5_14.s _ _ dR) (Dq.same g5_14.s _ _ dO) d14 (Dq.same g14.s _ _ (.tup (.inl (.inl upd_same)) (.cons (.str _) (.cons (.str _) (.cons d12 .nil))))) (hG.snoc (like_rewrite hG.h fw) (.inr ⟨nm, b, hB.n _ (by rw [← hG.h.n]; exact inN), rfl, ?_, by omega, cn8⟩))
      · exact b11 x o (two4 x o n e) (r1 _ _ (s9 _ _ (b58 x o (fun z => n (.inl z)) (s35 _ _ (b13 x o (fun z => n (.inl z)) e)))))
      · exact (g8.at_ fun o e => b11 g o gT (r1 _ _ (s9 _ _ e))).less (by show n - 100 ≤ n - 1 - 1 - 1 - 1 - (1 + 3 * (8 + 4 * 4)); omega)
      · exact Bdy.ok_rs (fun x hx => hB.r x (by rw [← hG.h.r]; exact hx)) (Bdy.ok_mono (fun x hx => hB.n x (by rw [← hG.h.n]; exact hx)) ok8)
end

end Bs
set_option Elab.async false
set_option linter.all false
set_option maxRecDepth 100000
set_option maxHeartbeats 400000
/-! what is printed is short -/
namespace Bs
open PySem PySem.Spec PyProof.Rows L2 Gd Er
/-! ### prints of deeds -/
def allW : List Str := ["call", "check", "tail", "back", "either", "loop", "block", "grant", "revoke", "rewrite"]
theorem short_all : ∀ x, x ∈ allR ++ allO ++ allN ++ allW → x.cps.size ≤ 8 ∧ (x.cps.toList.all fun c => decide (c < 16 ^ 8)) = true := by decide +kernel
/-- a print of n signs at most -/
structure Sh (d : PyData) (n : Nat) : Prop where
  s : d.showable = true
  l : d.leavesShort 13 = true
  w : d.weight + 1 ≤ n
structure ShAll (ds : List PyData) (n : Nat) : Prop where
  s : PyData.showableAll ds = true
  l : PyData.leavesShortAll 13 ds = true
  w : PyData.weightAll ds ≤ n
theorem ShAll.nil {n : Nat} : ShAll [] n := ⟨rfl, rfl, Nat.zero_le n⟩
theorem ShAll.cons {d : PyData} {ds : List PyData} {n m k : Nat} (a : Sh d n) (b : ShAll ds m) (l : n + m ≤ k) : ShAll (d :: ds) k := by
  have := a.w
  have := b.w
  refine ⟨?_, ?_, ?_⟩
  · show (d.showable && PyData.showableAll ds) = true
    rw [a.s, b.s]; rfl
  · show (PyData.leavesShort 13 d && PyData.leavesShortAll 13 ds) = true
    rw [a.l, b.l]; rfl
  · show d.weight + 1 + PyData.weightAll ds ≤ k
    omega
theorem ShAll.lst {ds : List PyData} {n : Nat} (a : ShAll ds n) : Sh (.list ds) (n + 1) := ⟨a.s, a.l, Nat.succ_le_succ a.w⟩
theorem ShAll.tup {ds : List PyData} {n : Nat} (a : ShAll ds n) : Sh (.tuple ds) (n + 1) := ⟨a.s, a.l, Nat.succ_le_succ a.w⟩
theorem sh_str {x : Str} (h : x ∈ allR ++ allO ++ allN ++ allW) : Sh (.str x) 9 := by
  obtain ⟨a, b⟩ := short_all x h
  exact ⟨rfl, b, Nat.succ_le_succ a⟩
theorem Sh.le {d : PyData} {n m : Nat} (h : Sh d n) (l : n ≤ m) : Sh d m := ⟨h.s, h.l, Nat.le_trans h.w l⟩
theorem sh_n {x : Str} (h : x ∈ allN) : Sh (.str x) 9 := sh_str (List.mem_append_left _ (List.mem_append_right _ h))
theorem sh_o {x : Str} (h : x ∈ allO) : Sh (.str x) 9 := sh_str (List.mem_append_left _ (List.mem_append_left _ (List.mem_append_right _ h)))
theorem sh_r {x : Str} (h : x ∈ allR) : Sh (.str x) 9 := sh_str (List.mem_append_left _ (List.mem_append_left _ (List.mem_append_left _ h)))
theorem sh_bool (b : Bool) : Sh (.bool b) 9 := ⟨rfl, rfl, by show 0 + 1 ≤ 9; decide⟩
theorem Sh.tup2 {a b : PyData} {n m : Nat} (x : Sh a n) (y : Sh b m) : Sh (.tuple [a, b]) (n + (m + 0) + 1) := (ShAll.cons x (ShAll.cons y (ShAll.nil (n := 0)) (Nat.le_refl _)) (Nat.le_refl _)).tup
mutual
theorem Stp.sh : ∀ {m : Bool} {s : Stp}, s.ok allR allN m → Sh s.d (40 * s.cnt)
  | m, .call n, k => by
    rw [Stp.ok] at k
    rw [Stp.d, Stp.cnt]
    exact ((sh_str (by decide)).tup2 (sh_n k)).le (by decide)
  | m, .check n, k => by
    rw [Stp.ok] at k
    rw [Stp.d, Stp.cnt]
    exact ((sh_str (by decide)).tup2 (sh_r k)).le (by decide)
  | m, .tail n, k => by
    rw [Stp.ok] at k
    rw [Stp.d, Stp.cnt]
    exact ((sh_str (by decide)).tup2 (sh_n k.1)).le (by decide)
  | m, .back, k => by
    rw [Stp.d, Stp.cnt]
    exact (ShAll.cons (k := 9) (sh_str (by decide)) (ShAll.nil (n := 0)) (by decide)).tup.le (by decide)
  | m, .either a b, k => by
    rw [Stp.ok] at k
    rw [Stp.d, Stp.cnt]
    exact (ShAll.cons (sh_str (by decide)) (ShAll.cons (Bdy.sh k.1).lst (ShAll.cons (Bdy.sh k.2).lst (ShAll.nil (n := 0)) (Nat.le_refl _)) (Nat.le_refl _)) (Nat.le_refl _)).tup.le (by omega)
  | m, .loop a, k => by
    rw [Stp.ok] at k
    rw [Stp.d, Stp.cnt]
    exact (ShAll.cons (sh_str (by decide)) (ShAll.cons (Bdy.sh k).lst (ShAll.nil (n := 0)) (Nat.le_refl _)) (Nat.le_refl _)).tup.le (by omega)
  | m, .block q a, k => by
    rw [Stp.ok] at k
    rw [Stp.d, Stp.cnt]
    exact (ShAll.cons (sh_str (by decide)) (ShAll.cons (sh_bool q) (ShAll.cons (Bdy.sh k).lst (ShAll.nil (n := 0)) (Nat.le_refl _)) (Nat.le_refl _)) (Nat.le_refl _)).tup.le (by omega)
theorem Bdy.sh : ∀ {m : Bool} {b : Bdy}, b.ok allR allN m → ShAll b.ds (40 * b.cnt)
  | m, .nil, k => by rw [Bdy.ds]; exact .nil
  | m, .cons s b, k => by
    rw [Bdy.ok] at k
    rw [Bdy.ds, Bdy.cnt]
    exact .cons (Stp.sh k.1) (Bdy.sh k.2) (by omega)
end
theorem DeedS.sh {d : PyData} (h : DeedS d) : Sh d 700 ∧ d.depth ≤ 20 := by
  rcases h with ⟨w, n, r, hw, hn, hr, rfl⟩ | ⟨n, b, hn, rfl, hok, hdp, hcn⟩
  · refine ⟨(ShAll.cons (n := 9) (sh_str (by rcases hw with rfl | rfl <;> decide)) (ShAll.cons (sh_o hn) (ShAll.cons (sh_r hr) (ShAll.nil (n := 0)) (Nat.le_refl _)) (Nat.le_refl _)) (Nat.le_refl _)).tup.le (by decide), ?_⟩
    exact Nat.le_of_ble_eq_true rfl
  · refine ⟨(ShAll.cons (n := 9) (sh_str (by decide)) (ShAll.cons (sh_n hn) (ShAll.cons (Bdy.sh hok).lst (ShAll.nil (n := 0)) (Nat.le_refl _)) (Nat.le_refl _)) (Nat.le_refl _)).tup.le (by omega), ?_⟩
    show max 0 (max 0 (max (PyData.depthAll b.ds + 1) 0)) + 1 ≤ 20
    have := Bdy.deep b
    omega
theorem log_sh {log : List (PyData × Parts)} (h : ∀ e, e ∈ log → DeedS e.1) : ShAll (log.map (·.1)) (700 * log.length) ∧ PyData.depthAll (log.map (·.1)) ≤ 20 := by
  induction log with
  | nil => exact ⟨.nil, Nat.zero_le _⟩
  | cons e log ih =>
    obtain ⟨a, b⟩ := (h e List.mem_cons_self).sh
    obtain ⟨c, d⟩ := ih fun x hx => h x (List.mem_cons_of_mem _ hx)
    refine ⟨.cons a c (by rw [List.length_cons]; omega), ?_⟩
    show max e.1.depth (PyData.depthAll (log.map (·.1))) ≤ 20
    omega
/-- the log may be printed -/
theorem log_ok {log : List (PyData × Parts)} (h : ∀ e, e ∈ log → DeedS e.1) (l : log.length ≤ 900) : (PyData.list (log.map (·.1))).showable = true ∧ (PyData.list (log.map (·.1))).depth ≤ 40 ∧ (PyData.list (log.map (·.1))).shown.length ≤ sizeLine := by
  obtain ⟨a, b⟩ := log_sh h
  refine ⟨a.s, ?_, PyData.shown_fits (B := 13) (by decide) (by decide) a.l ?_⟩
  · show PyData.depthAll (log.map (·.1)) + 1 ≤ 40
    omega
  · show PyData.weightAll (log.map (·.1)) ≤ 2 ^ 20
    have := a.w
    have : (2 : Nat) ^ 20 = 1048576 := by decide
    omega
theorem bools_ok (a b : Bool) : (PyData.list [.bool a, .bool b]).showable = true ∧ (PyData.list [.bool a, .bool b]).depth ≤ 40 ∧ (PyData.list [.bool a, .bool b]).shown.length ≤ sizeLine := by
  refine ⟨rfl, Nat.le_of_ble_eq_true rfl, PyData.shown_fits (B := 13) (by decide) (by decide) rfl ?_⟩
  show 0 + 1 + (0 + 1 + 0) ≤ 2 ^ 20
  decide

end Bs
set_option Elab.async false
set_option linter.all false
set_option maxRecDepth 100000
set_option maxHeartbeats 1000000
/-! what the law looks at -/
namespace Bs
open PySem PySem.Spec PyProof.Rows L2 Gd Er
local macro_rules | `(tactic| walk_at "rdc") => `(tactic| (first
  | assumption | exact Or.inl ⟨by omega, by omega⟩ | exact Or.inr ⟨by omega, by omega⟩ | exact Or.inl ⟨by decide, by decide⟩ | exact Or.inr ⟨by decide, by decide⟩
  | (show (0 : Int) < _; omega) | (show (0 : Int) < _; decide) | decide | omega | exact ⟨by decide, by decide, by decide⟩ | exact ⟨by decide, by decide +kernel⟩ | decide +kernel))
local macro_rules | `(tactic| walk_at "rdh") => `(tactic| (first | assumption | exact upd_same))
local macro_rules | `(tactic| walk_at "rd1") => `(tactic| (first
  | (with_reducible refine Rd.var rfl ?_) | (with_reducible refine Rd.con ?_) | (with_reducible refine Rd.op ?_) | (with_reducible refine Rd.un ?_) | (with_reducible refine Rd.i0 ?_) | (with_reducible refine Rd.iu ?_)
  | (with_reducible refine Rd.nil ?_) | (with_reducible refine Rd.cons ?_) | (with_reducible refine Rd.cb ?_) | (with_reducible refine Rd.asg ?_) | (with_reducible refine Rd.name ?_) | (with_reducible refine Rd.sub ?_) | (with_reducible refine Rd.rev ?_) | (with_reducible refine Rd.drop ?_) | (with_reducible refine Rd.bm ?_) | (with_reducible refine Rd.par ?_) | (with_reducible refine Rd.p2 ?_) | (with_reducible refine Rd.sl ?_) | (with_reducible refine Rd.noPart ?_) | (with_reducible refine Rd.part ?_) | (with_reducible refine Rd.int_ ?_) | (with_reducible refine Rd.seq ?_)
  | (with_reducible refine Rd.ret ?_) | (with_reducible refine Rd.retN ?_) | (with_reducible refine Rd.nxt ?_) | (with_reducible refine Rd.tst ?_) | (with_reducible refine Rd.tb_ ?_) | (with_reducible refine Rd.tnot ?_)
  | (with_reducible refine Rd.tor ?_) | (with_reducible refine Rd.tand ?_) | (with_reducible refine Rd.ifs ?_) | (with_reducible refine Rd.ife ?_) | (with_reducible refine Rd.lst ?_) | (with_reducible refine Rd.tup ?_)
  | (with_reducible refine Rd.int1 ?_) | (with_reducible refine Rd.bl ?_) | (with_reducible refine Rd.call ?_)
  | (with_reducible refine Rd.mx ?_) | (with_reducible refine Rd.bits ?_) | (with_reducible refine Rd.forR ?_) | (with_reducible refine Rd.forL ?_) | (with_reducible refine Rd.lcR ?_) | (with_reducible refine Rd.lcL ?_) | (with_reducible refine Rd.lcT ?_) | (with_reducible refine Rd.chain ?_) | (with_reducible refine Rd.notv ?_) | (with_reducible refine Rd.forS ?_) | (with_reducible refine Rd.lcS ?_) | (with_reducible refine Rd.str_ ?_) | (with_reducible refine Rd.forE ?_) | (with_reducible refine Rd.lcI ?_) | (with_reducible refine Rd.tgt ?_) | (with_reducible refine Rd.gcons ?_) | (with_reducible refine Rd.gnil ?_) | (with_reducible refine Rd.fld ?_) | (with_reducible refine Rd.sfld ?_) | (with_reducible refine Rd.meth ?_) | (with_reducible refine Rd.forT ?_)
  | ((with_reducible refine' Rd.ixLT ?rh ?ra ?_); (case rh => walk_at "rdh"); (case ra => rfl))
  | ((with_reducible refine' Rd.setL ?rh ?ra ?_); (case rh => walk_at "rdh"); (case ra => rfl))
  | ((with_reducible refine Rd.ic ?rc ?_); (case rc => walk_at "rdc"))))
local macro_rules | `(tactic| walk_at "rd") => `(tactic| (repeat (walk_at "rd1")))


/-! ### _law_shows -/
abbrev s_law_shows : Stmt := top 42
abbrev N_law_shows : List Str := ["lives", "states", "made", "at", "other", "same", "state", "step"]
theorem sc_law_shows : FnScope N_law_shows ["lives", "states"] (defScope s_law_shows) := ⟨rfl, rfl, rfl, by decide +kernel, rfl, by decide +kernel, by decide +kernel⟩
structure TxtL (mg : Str → Option Value) : Prop where
  m_len : mg "len" = none
  m_range : mg "range" = none
  m_repr : mg "repr" = none
  m_max : mg "max" = none
  m_list : mg "list" = none
/-- a live program and what the law keeps of it -/
structure Lv where
  l : Addr
  pa : Addr
  st : Addr
  q : Parts
  log : List (PyData × Parts)
structure LvOk (K : PySem.W.Frag) (C L : Addr) (W H : Hp) (q0 : Parts) (e : Lv) : Prop where
  v : LvAt K C L W H e.l e.pa e.q e.log
  s : StAt K W H e.st e.q e.log
  g : Good q0 e.q e.log
  n : e.log.length ≤ 100
theorem PAt.ins {K : PySem.W.Frag} {C : Addr} {W : Hp} {p : Addr} {q : Parts} (h : PAt K C W p q) : ∃ dx fs, W p = some (.ins C dx fs) := by
  obtain ⟨W0, dx, PL, PD, PB, kv1, kv2, s0, a1, a2, a3, a4, _⟩ := h
  exact ⟨_, _, a4⟩
theorem LvAt.ins {K : PySem.W.Frag} {C L : Addr} {W H : Hp} {l pa : Addr} {q : Parts} {log : List (PyData × Parts)} (h : LvAt K C L W H l pa q log) : ∃ dx fs, H l = some (.ins L dx fs) ∧ fs.map (·.1) = (["now", "past"] : List Str) := by
  obtain ⟨dx, p, xs, h1, _⟩ := h
  exact ⟨_, _, h1, rfl⟩
theorem LvAt.inm {K : PySem.W.Frag} {C L : Addr} {W H : Hp} {l pa : Addr} {q : Parts} {log : List (PyData × Parts)} (h : LvAt K C L W H l pa q log) : ∃ dx fs, H l = some (.ins L dx fs) ∧ fs.lookup ("shown" : Str) = none ∧ fs.lookup ("log" : Str) = none ∧ fs.lookup ("copy" : Str) = none ∧ fs.lookup ("back" : Str) = none := by
  obtain ⟨dx, p, xs, h1, _⟩ := h
  exact ⟨_, _, h1, rfl, rfl, rfl, rfl⟩
theorem LvAt.up {K : PySem.W.Frag} {C L : Addr} {W W' H H' : Hp} {l pa : Addr} {q : Parts} {log : List (PyData × Parts)} (h : LvAt K C L W H l pa q log) (gr : Grow W W' H) (s : Same H H') : LvAt K C L W' H' l pa q log := h.keep gr (fun o e => s _ _ e) fun o e => s _ _ e
def sp_shows (K : PySem.W.Frag) (C L : Addr) : Sp := fun vs H Q _ => ∃ (A1 A2 : Addr) (W : Hp) (q0 : Parts) (ls : List Lv), vs = [.ref A1, .ref A2] ∧ PCls K C ∧ LCls K L ∧ Same W H ∧ H A1 = some (.lst (ls.map fun e => .ref e.l)) ∧ H A2 = some (.lst (ls.map fun e => .ref e.st)) ∧ ls.length ≤ 4 ∧
  (∀ e, e ∈ ls → LvOk K C L W H q0 e) ∧ ∀ H', Same H H' → Q (.bl true) H'
section
variable {P : Program} {w : World} {K : PySem.W.Frag} {mg : Str → Option Value} {base : Heap} {C L f f_p f_s f_g f_e f_q : Addr} {fd fd_p fd_s fd_g fd_e fd_q : FuncData}
theorem ok_shows (F : FnP K "_law_shows" s_law_shows f fd) (c_Live : Cls K L) (hB : Mods base)
    (G_law_program : FnOk P w K mg base CX0 18 f_p fd_p ["parts"] (sp_lprogram K C)) (g_law_program : mg "_law_program" = some (.ref f_p)) (k_law_program : PySem.W.keepIn K (.ref f_p) = true) (b_law_program : Binds K fd_p ["parts"] [])
    (m_Live_shown : Meth K L "shown" f_s) (G_Live_shown : FnOk P w K mg base CX0 18 f_s fd_s ["self"] (sp_shown K C L)) (b_Live_shown : Binds K fd_s ["self"] [])
    (m_Live_log : Meth K L "log" f_g) (G_Live_log : FnOk P w K mg base CX0 15 f_g fd_g ["self"] (sp_llog K C L)) (b_Live_log : Binds K fd_g ["self"] [])
    (G_Program_eq : FnOk P w K mg base CX0 16 f_e fd_e ["self", "other"] (sp_peq K C)) (s_peq : PySem.W.findIn K (.ref C) "__eq__" = some (some (.ref f_e))) (f_peq : PySem.W.isFn K (.ref f_e) = true) (n_peq : PySem.W.findIn K (.ref C) "__ne__" = some (some (.builtin "object.__ne__"))) (o_peq : PySem.W.mroIn K C (.type "object") = some true) (b_Program_eq : Binds K fd_e ["self", "other"] [])
    (G_Live_eq : FnOk P w K mg base CX0 17 f_q fd_q ["self", "other"] (sp_leq K C L)) (s_leq : PySem.W.findIn K (.ref L) "__eq__" = some (some (.ref f_q))) (f_leq : PySem.W.isFn K (.ref f_q) = true) (n_leq : PySem.W.findIn K (.ref L) "__ne__" = some (some (.builtin "object.__ne__"))) (o_leq : PySem.W.mroIn K L (.type "object") = some true) (b_Live_eq : Binds K fd_q ["self", "other"] [])
    (T : TxtL mg) : FG P w K mg base CX0 20 f fd ["lives", "states"] (sp_shows K C L) := by
  refine FunD_okG F sc_law_shows (fun vs H Q E h => ?_) (fun cdv A outer s H vs Q E gd hr h => ?_)
  · obtain ⟨A1, A2, W, q0, ls, rfl, _⟩ := h
    rfl
  obtain ⟨A1, A2, W, q0, ls, rfl, hC, hL, sW, hA1, hA2, hn, hls, hQ⟩ := h
  refine ⟨_, PSs.nox (pss_cons (ps_setLc (i := 2) (own := [("state", 6)]) (g := gName 6) rfl sc_law_shows.nd rfl rfl (sw_true rfl rfl rfl (by decide +kernel)) (Rd.pi_listK (K := K) rfl (pv 1)) (blkOk_by (N := N_law_shows) (sc := defScope s_law_shows) (by decide +kernel)) (fun _ _ _ _ _ => pg_name (i := 6) sc_law_shows.nd rfl (Or.inl rfl)) (fun _ _ _ _ _ => pts_nil) (fun _ _ _ _ _ => (pe_call G_law_program (hr.mono (by omega)) rfl g_law_program k_law_program b_law_program .nil pass0 (pa_cons (pe_ix (show IxR _ (rIxL K) from ix_list) (pv 6) pe_int (fun _ _ => rfl)) pa_nil))))
    (pss_cons (ps_for PassesOwn.never rfl (pi_range1 (by rfl) T.m_range (pa_cons (pe_callB (show CallR _ (.builtin "len") (Rd.rLn K) from Rd.c_len) (by rfl) T.m_len boot_len (pa_cons (pv 0) pa_nil)) pa_nil)) (pg_name (i := 3) sc_law_shows.nd rfl (by first | exact Or.inl rfl | exact Or.inr rfl)) (pss_cons (ps_if (pt_cmpR (show OpR _ (compareOp .NotEq) (NeIns.rNeI C (sp_peq K C) E0) from NeIns.op_neI G_Program_eq s_peq f_peq n_peq o_peq b_Program_eq (hr.mono (by omega)) pass0) (pe_meth0 (pe_ix (show IxR _ (rIxL K) from ix_list) (pv 0) (pv 3) (fun _ _ => rfl)) c_Live m_Live_shown G_Live_shown (hr.mono (by omega)) b_Live_shown .nil pass0) (pe_ix (show IxR _ (rIxL K) from ix_list) (pv 2) (pv 3) (fun _ _ => rfl)) (nomark _)) (pss_one (ps_ret pe_bl)) pss_nil)
    (pss_cons (ps_if (pt_cmpR op_ne (pe_callB (show CallR _ (.builtin "repr") (rRepr K) from call_repr hB gd hr.units) (by rfl) T.m_repr (by decide +kernel) (pa_cons (pe_meth0 (pe_ix (show IxR _ (rIxL K) from ix_list) (pv 0) (pv 3) (fun _ _ => rfl)) c_Live m_Live_log G_Live_log (hr.mono (by omega)) b_Live_log .nil pass0) pa_nil)) (pe_callB (show CallR _ (.builtin "repr") (rRepr K) from call_repr hB gd hr.units) (by rfl) T.m_repr (by decide +kernel) (pa_cons (pe_lc (own := [("step", 7)]) (g := gName 7) rfl sc_law_shows.nd (Rd.pi_listK (K := K) rfl (pe_ix (show IxR _ (rIxL K) from ix_list) (pe_ix (show IxR _ (rIxL K) from ix_list) (pv 1) (pv 3) (fun _ _ => rfl)) pe_int (fun _ _ => rfl))) (blkOk_by (N := N_law_shows) (sc := defScope s_law_shows) (by decide +kernel)) (fun _ _ _ _ _ => pg_name (i := 7) sc_law_shows.nd rfl (Or.inl rfl)) (fun _ _ _ _ _ => pts_nil) (fun _ _ _ _ _ => (pe_ix (show IxR _ (rIxT K) from ix_tup) (pv 7) pe_int (fun _ _ => rfl)))) pa_nil)) (nomark _)) (pss_one (ps_ret pe_bl)) pss_nil)
    (pss_one (ps_for PassesOwn.never rfl (pi_range1 (by rfl) T.m_range (pa_cons (pe_callB (show CallR _ (.builtin "len") (Rd.rLn K) from Rd.c_len) (by rfl) T.m_len boot_len (pa_cons (pv 0) pa_nil)) pa_nil)) (pg_name (i := 4) sc_law_shows.nd rfl (by first | exact Or.inl rfl | exact Or.inr rfl)) (pss_cons (ps_set (i := 5) sc_law_shows.nd rfl (by first | exact Or.inl rfl | exact Or.inr rfl) (pe_cmpR (show OpR _ (compareOp .Eq) (EqIns.rEqI C (sp_peq K C) E0) from EqIns.op_eqI G_Program_eq s_peq f_peq b_Program_eq (hr.mono (by omega)) pass0) (pe_ix (show IxR _ (rIxL K) from ix_list) (pv 2) (pv 3) (fun _ _ => rfl)) (pe_ix (show IxR _ (rIxL K) from ix_list) (pv 2) (pv 4) (fun _ _ => rfl)) (nomark _)))
    (pss_one (ps_if (pt_cmpR op_ne (pe_callB (show CallR _ (.builtin "repr") (rRepr K) from call_repr hB gd hr.units) (by rfl) T.m_repr (by decide +kernel) (pa_cons (pe_lst (pa_cons (pe_cmpR (show OpR _ (compareOp .Eq) (EqIns.rEqI L (sp_leq K C L) E0) from EqIns.op_eqI G_Live_eq s_leq f_leq b_Live_eq (hr.mono (by omega)) pass0) (pe_ix (show IxR _ (rIxL K) from ix_list) (pv 0) (pv 3) (fun _ _ => rfl)) (pe_ix (show IxR _ (rIxL K) from ix_list) (pv 0) (pv 4) (fun _ _ => rfl)) (nomark _)) (pa_cons (pe_cmpR (show OpR _ (compareOp .NotEq) (NeIns.rNeI L (sp_leq K C L) E0) from NeIns.op_neI G_Live_eq s_leq f_leq n_leq o_leq b_Live_eq (hr.mono (by omega)) pass0) (pe_ix (show IxR _ (rIxL K) from ix_list) (pv 0) (pv 3) (fun _ _ => rfl)) (pe_ix (show IxR _ (rIxL K) from ix_list) (pv 0) (pv 4) (fun _ _ => rfl)) (nomark _)) pa_nil))) pa_nil)) (pe_callB (show CallR _ (.builtin "repr") (rRepr K) from call_repr hB gd hr.units) (by rfl) T.m_repr (by decide +kernel) (pa_cons (pe_lst (pa_cons (pv 5) (pa_cons (pe_not (pv 5)) pa_nil))) pa_nil)) (nomark _)) (pss_one (ps_ret pe_bl)) pss_nil))))))))
    (pss_one (ps_ret pe_bl)))), ?_⟩
  walk_at "rd"
  refine Rd.l1 (.inl (.inl hA2)) fun D hD => ?_
  refine Rd.byCL (xs := ls.map fun e => .ref e.st) (fun i H' => ∃ (W' : Hp) (ps : List Addr), Grow W W' H ∧ Same W' H' ∧ W' D = none ∧ Same H H' ∧ H' D = some (.lst (ps.map V.ref)) ∧ ps.length = i ∧ ∀ j p, ps[j]? = some p → ∃ e : Lv, ls[j]? = some e ∧ PAt K C W' p e.q)
    ⟨W, [], Grow.refl, sW.trans (same_upd hD), same_none sW hD, same_upd hD, upd_same, rfl, fun j p e => nomatch (show (none : Option Addr) = some p from (List.getElem?_nil (i := j)).symm.trans e)⟩ (fun i H' hi h => ?_) (fun i x H' hi h => ?_) (fun H2 h => ?_)
  · obtain ⟨_, _, _, _, _, a4, _⟩ := h
    exact .inl (.inl (a4 _ _ hA2))
  · obtain ⟨W', ps, a1, a2, a3, a4, a5, a6, a7⟩ := h
    rw [List.getElem?_map] at hi
    obtain ⟨e, he, rfl⟩ := Option.map_eq_some_iff.mp hi
    have hm := List.mem_of_getElem? he
    obtain ⟨T0, S0, h1, h2, h3, h4⟩ := (hls e hm).s
    obtain ⟨_, R, O, F0, e0, hTs, dR, dO, dF⟩ := parts_inv h3
    cases e0
    refine Rd.turn1 rfl ?_
    walk_at "rd"
    refine Rd.ixL (.inl (.inl (a4 _ _ h1))) at0 ?_
    walk_at "rd"
    refine ⟨T0, R, O, F0, W', e.q, rfl, hC, a2, a2.seq (a1.s.seq hTs), Dq.same a1.s _ _ dR, Dq.same a1.s _ _ dO, Dq.same a1.s _ _ dF, (hls e hm).g.h.f, fun p9 W9 H9 s9 g9 sW9 hp9 n9 => ?_⟩
    have w9 : W9 D = none := g9.n D _ a5 a3
    have li := (List.getElem?_eq_some_iff.mp he).1
    refine Rd.acc (s9 _ _ a5) (by rw [List.length_map, a6]; omega) ⟨W9, ps ++ [p9], a1.trans g9 (Same.alive a4), ?_, w9, ?_, ?_, ?_, ?_⟩
    · exact fun y o e => (upd_ne (fun z => by rw [z, w9] at e; cases e)).trans (sW9 _ _ e)
    · exact fun y o e => (upd_ne (ne_of_none e hD)).trans (s9 _ _ (a4 _ _ e))
    · rw [upd_same, List.map_append]; rfl
    · rw [List.length_append, a6]; rfl
    · intro j p hj
      by_cases c : j < ps.length
      · rw [List.getElem?_append_left c] at hj
        obtain ⟨e', x1, x2⟩ := a7 j p hj
        exact ⟨e', x1, x2.same g9.s⟩
      · rw [List.getElem?_append_right (by omega)] at hj
        have : j - ps.length = 0 := by
          cases z : j - ps.length with
          | zero => rfl
          | succ k => rw [z] at hj; cases hj
        rw [this] at hj
        cases hj
        have : j = i := by omega
        rw [this]
        exact ⟨e, he, hp9⟩
  obtain ⟨W2, ps, g2, sW2, w2D, s2, hps, lps, hpp⟩ := h
  rw [List.length_map] at lps
  refine Rd.name ?_
  refine toS (σ' := [some (.ref A1), some (.ref A2), some (.ref D), none, none, none, none, none]) rfl ?_
  walk_at "rd"
  refine Rd.lnL (.inl (.inl (s2 _ _ hA1))) ?_
  rw [List.length_map]
  walk_at "rd"
  refine Rd.i1 (by omega) (by omega) ?_
  rw [Int.toNat_natCast]
  refine Rd.byR (fun i σ H' => (∃ o3 o4 o5, σ = [some (.ref A1), some (.ref A2), some (.ref D), o3, o4, o5, none, none]) ∧ Same H2 H') ⟨⟨none, none, none, rfl⟩, Same.refl H2⟩ (fun i σ H3 hi h => ?_) (fun σ H3 h => ?_)
  · obtain ⟨⟨o3, o4, o5, rfl⟩, s3⟩ := h
    obtain ⟨e, he⟩ : ∃ e, ls[i]? = some e := ⟨_, List.getElem?_eq_getElem hi⟩
    obtain ⟨p, hp⟩ : ∃ p, ps[i]? = some p := ⟨_, List.getElem?_eq_getElem (by omega)⟩
    obtain ⟨e', he', hpe⟩ := hpp i p hp
    rw [he] at he'
    cases he'
    have hm := List.mem_of_getElem? he
    obtain ⟨v1, v2, v3, v4⟩ := hls e hm
    have ft := v3.h.f
    have s03 := s2.trans s3
    have sW3 := sW2.trans s3
    rw [show (0 : Int) + (i : Int) = ((i : Nat) : Int) by omega]
    have iL : atI (ls.map fun e => V.ref e.l) ((i : Nat) : Int) = some (.ref e.l) := atI_nat (by rw [List.getElem?_map, he]; rfl)
    have iS : atI (ls.map fun e => V.ref e.st) ((i : Nat) : Int) = some (.ref e.st) := atI_nat (by rw [List.getElem?_map, he]; rfl)
    have iP : atI (ps.map V.ref) ((i : Nat) : Int) = some (.ref p) := atI_nat (by rw [List.getElem?_map, hp]; rfl)
    have lv3 := v1.up g2 s03
    obtain ⟨dxl, fsl, hl1, hl2, hl3, _⟩ := lv3.inm
    refine Rd.name ?_
    refine toS (σ' := [some (.ref A1), some (.ref A2), some (.ref D), some (.int (i : Int)), o4, o5, none, none]) rfl ?_
    walk_at "rd"
    refine Rd.ixL (.inl (.inl (s03 _ _ hA1))) iL ?_
    refine Rd.methAt hl1 hl2 ?_
    walk_at "rd"
    refine ⟨e.l, e.pa, W2, e.q, e.log, rfl, hC, hL, sW3, lv3, fun p9 W9 H9 s9 g9 sW9 hp9 n9 => ?_⟩
    walk_at "rd"
    refine Rd.ixL (.inl (.inl (s9 _ _ (s3 _ _ hps)))) iP ?_
    obtain ⟨_, _, i9⟩ := hp9.ins
    obtain ⟨_, _, ip⟩ := hpe.ins
    refine ⟨p9, p, _, _, _, _, rfl, rfl, sW9 _ _ i9, s9 _ _ (sW3 _ _ ip), .inl ⟨p9, p, W9, e.q, e.q, rfl, sW9, hp9, hpe.same g9.s, fun H10 s10 => ⟨_, rfl, ?_⟩⟩⟩
    refine Rd.bl (Rd.brF (by rw [eqP_refl ft]; rfl) ?_)
    have s0A := (s03.trans s9).trans s10
    have s3A := s9.trans s10
    have sWA := sW3.trans s3A
    have lvA := lv3.up Grow.refl s3A
    walk_at "rd"
    refine Rd.ixL (.inl (.inl (s0A _ _ hA1))) iL ?_
    refine Rd.methAt (s3A _ _ hl1) hl3 ?_
    walk_at "rd"
    have dd : ∀ x, x ∈ e.log → DeedS x.1 := fun x hx => (v3.d x hx).1
    obtain ⟨k1, k2, k3⟩ := log_ok dd (by omega)
    refine ⟨e.l, e.pa, W2, e.q, e.log, rfl, hL, sWA, lvA, fun x hx => (dd x hx).ok, by omega, fun T5 W5 H5 s5 g5 sW5 d5 n5 => ?_⟩
    refine ⟨T5, _, rfl, Dq.same sW5 _ _ d5, k1, k2, k3, ?_⟩
    obtain ⟨T0, S0, x1, x2, x3, x4⟩ := v2
    obtain ⟨_, sx, e0, hSs, hSx⟩ := lst_inv x4
    cases e0
    walk_at "rd"
    refine Rd.ixL (.inl (.inl (s5 _ _ (s0A _ _ hA2)))) iS ?_
    refine Rd.ixL (.inl (.inl (s5 _ _ (s0A _ _ x1)))) at1 ?_
    have sW25 := sWA.trans s5
    refine Rd.l1 (sW25.seq (g2.s.seq hSs)) fun D6 hD6 => ?_
    refine Rd.byCL (xs := sx) (fun j H' => Coll K W2 W2 H5 D6 H' ((e.log.take j).map (·.1))) (Coll.nil sW25 hD6) (fun j H' hj h => h.seen.seq (g2.s.seq hSs)) (fun j x H' hj h => ?_) (fun H7 h => ?_)
    · obtain ⟨W', its, b0, b1, b2, b3, b4, b5, b6⟩ := h
      obtain ⟨y, hy, hx⟩ := ds_get hSx hj
      obtain ⟨t, ys, rfl, ht, hys⟩ := tup_inv (Dq.same (g2.s.trans b0) _ _ hx)
      obtain ⟨y1, y2, rfl, z1, z2⟩ := two_inv hys
      refine Rd.turn1 rfl ?_
      walk_at "rd"
      refine Rd.ixT (sqT_same b2 ht) at0 ?_
      exact Coll.acc b0 b1 b3 b4 b5 b6 hD6 (Same.refl H') Grow.refl b2 z1 (take_map hy) (take_len (by omega))
    have h : Coll K W2 W2 H5 D6 H7 (e.log.map (·.1)) := by
      rw [dqAll_len hSx, List.length_map, List.take_length] at h
      exact h
    obtain ⟨W7, c1, c2, c3, c4, c5⟩ := Coll.done hD6 h
    refine ⟨D6, _, rfl, Dq.same c3 _ _ c5, k1, k2, k3, ?_⟩
    refine Rd.ne_ rfl (Rd.bl (Rd.brF (notSame rfl) ?_))
    have s0B := (s0A.trans s5).trans c4
    have s3B := (s3A.trans s5).trans c4
    have s2B := s3.trans s3B
    walk_at "rd"
    refine Rd.lnL (.inl (.inl (s0B _ _ hA1))) ?_
    rw [List.length_map]
    walk_at "rd"
    refine Rd.i1 (by omega) (by omega) ?_
    rw [Int.toNat_natCast]
    refine Rd.byR (fun j σ H' => (∃ o4 o5, σ = [some (.ref A1), some (.ref A2), some (.ref D), some (.int (i : Int)), o4, o5, none, none]) ∧ Same H2 H') ⟨⟨o4, o5, rfl⟩, s2B⟩ (fun j σ H4 hj h => ?_) (fun σ H4 h => ?_)
    · obtain ⟨⟨o4', o5', rfl⟩, s4⟩ := h
      obtain ⟨e2, he2⟩ : ∃ e, ls[j]? = some e := ⟨_, List.getElem?_eq_getElem hj⟩
      obtain ⟨p2, hp2⟩ : ∃ p, ps[j]? = some p := ⟨_, List.getElem?_eq_getElem (by omega)⟩
      obtain ⟨e', he', hpe2⟩ := hpp j p2 hp2
      rw [he2] at he'
      cases he'
      have hm2 := List.mem_of_getElem? he2
      obtain ⟨v12, v22, v32, v42⟩ := hls e2 hm2
      have s04 := s2.trans s4
      have sW4 := sW2.trans s4
      rw [show (0 : Int) + (j : Int) = ((j : Nat) : Int) by omega]
      have jL : atI (ls.map fun e => V.ref e.l) ((j : Nat) : Int) = some (.ref e2.l) := atI_nat (by rw [List.getElem?_map, he2]; rfl)
      have jP : atI (ps.map V.ref) ((j : Nat) : Int) = some (.ref p2) := atI_nat (by rw [List.getElem?_map, hp2]; rfl)
      have lv4 := v1.up g2 s04
      have lv42 := v12.up g2 s04
      obtain ⟨_, _, ip2⟩ := hpe2.ins
      obtain ⟨_, _, il, _⟩ := lv4.ins
      obtain ⟨_, _, il2, _⟩ := lv42.ins
      refine Rd.name ?_
      refine toS (σ' := [some (.ref A1), some (.ref A2), some (.ref D), some (.int (i : Int)), some (.int (j : Int)), o5', none, none]) rfl ?_
      walk_at "rd"
      refine Rd.ixL (.inl (.inl (s4 _ _ hps))) iP ?_
      walk_at "rd"
      refine Rd.ixL (.inl (.inl (s4 _ _ hps))) jP ?_
      refine ⟨p, p2, _, _, _, _, rfl, rfl, sW4 _ _ ip, sW4 _ _ ip2, .inl ⟨p, p2, W2, e.q, e2.q, rfl, sW4, hpe, hpe2, fun H5' s5' => ⟨_, rfl, ?_⟩⟩⟩
      have lv5 := lv4.up Grow.refl s5'
      have lv52 := lv42.up Grow.refl s5'
      walk_at "rd"
      refine Rd.ixL (.inl (.inl (s5' _ _ (s04 _ _ hA1)))) iL ?_
      walk_at "rd"
      refine Rd.ixL (.inl (.inl (s5' _ _ (s04 _ _ hA1)))) jL ?_
      refine ⟨e.l, e2.l, _, _, _, _, rfl, rfl, s5' _ _ il, s5' _ _ il2, .inl ⟨e.l, e.pa, e2.l, e2.pa, W2, e.q, e2.q, e.log, e2.log, rfl, hL, sW4.trans s5', lv5, lv52, fun H6' s6' => ⟨_, rfl, ?_⟩⟩⟩
      walk_at "rd"
      refine Rd.ixL (.inl (.inl (s6' _ _ (s5' _ _ (s04 _ _ hA1))))) iL ?_
      walk_at "rd"
      refine Rd.ixL (.inl (.inl (s6' _ _ (s5' _ _ (s04 _ _ hA1))))) jL ?_
      refine ⟨e.l, e2.l, _, _, _, _, rfl, rfl, s6' _ _ (s5' _ _ il), s6' _ _ (s5' _ _ il2), .inl ⟨e.l, e.pa, e2.l, e2.pa, W2, e.q, e2.q, e.log, e2.log, rfl, hL, (sW4.trans s5').trans s6', lv5.up Grow.refl s6', lv52.up Grow.refl s6', fun H7' s7' => ⟨_, rfl, ?_⟩⟩⟩
      obtain ⟨r1, r2, r3⟩ := bools_ok (eqP e.q e2.q) (!eqP e.q e2.q)
      walk_at "rd"
      refine mkLs fun a8 H8 n8 s8 e8 => ?_
      refine ⟨a8, _, rfl, .lst (.inl (.inl e8)) (.cons (.bl _) (.cons (.bl _) .nil)), r1, r2, r3, ?_⟩
      walk_at "rd"
      refine mkLs fun a9 H9' n9' s9' e9 => ?_
      refine ⟨a9, _, rfl, .lst (.inl (.inl e9)) (.cons (.bl _) (.cons (.bl _) .nil)), r1, r2, r3, ?_⟩
      refine Rd.ne_ rfl (Rd.bl (Rd.brF (notSame rfl) ?_))
      walk_at "rd"
      exact ⟨⟨_, _, rfl⟩, ((((s4.trans s5').trans s6').trans s7').trans s8).trans s9'⟩
    · obtain ⟨⟨o4', o5', rfl⟩, s4⟩ := h
      walk_at "rd"
      exact ⟨⟨_, _, _, rfl⟩, s4⟩
  · obtain ⟨⟨o3, o4, o5, rfl⟩, s3⟩ := h
    walk_at "rd"
    exact hQ H3 (s2.trans s3)
end

end Bs
set_option Elab.async false
set_option linter.all false
set_option maxRecDepth 100000
set_option maxHeartbeats 1000000
/-! all is undone -/
namespace Bs
open PySem PySem.Spec PyProof.Rows L2 Gd Er
local macro_rules | `(tactic| walk_at "rdc") => `(tactic| (first
  | assumption | exact Or.inl ⟨by omega, by omega⟩ | exact Or.inr ⟨by omega, by omega⟩ | exact Or.inl ⟨by decide, by decide⟩ | exact Or.inr ⟨by decide, by decide⟩
  | (show (0 : Int) < _; omega) | (show (0 : Int) < _; decide) | decide | omega | exact ⟨by decide, by decide, by decide⟩ | exact ⟨by decide, by decide +kernel⟩ | decide +kernel))
local macro_rules | `(tactic| walk_at "rdh") => `(tactic| (first | assumption | exact upd_same))
local macro_rules | `(tactic| walk_at "rd1") => `(tactic| (first
  | (with_reducible refine Rd.var rfl ?_) | (with_reducible refine Rd.con ?_) | (with_reducible refine Rd.op ?_) | (with_reducible refine Rd.un ?_) | (with_reducible refine Rd.i0 ?_) | (with_reducible refine Rd.iu ?_)
  | (with_reducible refine Rd.nil ?_) | (with_reducible refine Rd.cons ?_) | (with_reducible refine Rd.cb ?_) | (with_reducible refine Rd.asg ?_) | (with_reducible refine Rd.name ?_) | (with_reducible refine Rd.sub ?_) | (with_reducible refine Rd.rev ?_) | (with_reducible refine Rd.drop ?_) | (with_reducible refine Rd.bm ?_) | (with_reducible refine Rd.par ?_) | (with_reducible refine Rd.p2 ?_) | (with_reducible refine Rd.sl ?_) | (with_reducible refine Rd.noPart ?_) | (with_reducible refine Rd.part ?_) | (with_reducible refine Rd.int_ ?_) | (with_reducible refine Rd.seq ?_)
  | (with_reducible refine Rd.ret ?_) | (with_reducible refine Rd.retN ?_) | (with_reducible refine Rd.nxt ?_) | (with_reducible refine Rd.tst ?_) | (with_reducible refine Rd.tb_ ?_) | (with_reducible refine Rd.tnot ?_)
  | (with_reducible refine Rd.tor ?_) | (with_reducible refine Rd.tand ?_) | (with_reducible refine Rd.ifs ?_) | (with_reducible refine Rd.ife ?_) | (with_reducible refine Rd.lst ?_) | (with_reducible refine Rd.tup ?_)
  | (with_reducible refine Rd.int1 ?_) | (with_reducible refine Rd.bl ?_) | (with_reducible refine Rd.call ?_)
  | (with_reducible refine Rd.mx ?_) | (with_reducible refine Rd.bits ?_) | (with_reducible refine Rd.forR ?_) | (with_reducible refine Rd.forL ?_) | (with_reducible refine Rd.lcR ?_) | (with_reducible refine Rd.lcL ?_) | (with_reducible refine Rd.lcT ?_) | (with_reducible refine Rd.chain ?_) | (with_reducible refine Rd.notv ?_) | (with_reducible refine Rd.forS ?_) | (with_reducible refine Rd.lcS ?_) | (with_reducible refine Rd.str_ ?_) | (with_reducible refine Rd.forE ?_) | (with_reducible refine Rd.lcI ?_) | (with_reducible refine Rd.tgt ?_) | (with_reducible refine Rd.gcons ?_) | (with_reducible refine Rd.gnil ?_) | (with_reducible refine Rd.fld ?_) | (with_reducible refine Rd.sfld ?_) | (with_reducible refine Rd.meth ?_) | (with_reducible refine Rd.forT ?_)
  | ((with_reducible refine' Rd.ixLT ?rh ?ra ?_); (case rh => walk_at "rdh"); (case ra => rfl))
  | ((with_reducible refine' Rd.setL ?rh ?ra ?_); (case rh => walk_at "rdh"); (case ra => rfl))
  | ((with_reducible refine Rd.ic ?rc ?_); (case rc => walk_at "rdc"))))
local macro_rules | `(tactic| walk_at "rd") => `(tactic| (repeat (walk_at "rd1")))


/-! ### undone to the beginning, and behind it -/
/-- NothingToUndo -/
structure NTU (K : PySem.W.Frag) (mg : Str → Option Value) (NT : Addr) : Prop where
  x : OexC K NT
  i : PySem.W.findIn K (.ref NT) "__init__" = some (some (.builtin "ValueError.__init__"))
  g : mg "NothingToUndo" = some (.ref NT)
  b : PySem.W.subIn K (.ref NT) (.type "BaseException") = some true
  t : PySem.W.typeIn K (.ref NT) = some (.type "type")
  e : PySem.W.exmOne K (.ref NT) (.ref NT) = some true
def sp_backE (K : PySem.W.Frag) (C L NT : Addr) : Sp := fun vs H _ E => ∃ (l pa : Addr) (W : Hp) (q : Parts), vs = [.ref l] ∧ LCls K L ∧ Same W H ∧ LvAt K C L W H l pa q [] ∧ ∀ H', Same H H' → E (.ref NT) none H'
def sp_logH (K : PySem.W.Frag) (C L : Addr) : Sp := fun vs H Q _ => ∃ (l pa : Addr) (W : Hp) (q : Parts), vs = [.ref l] ∧ LCls K L ∧ LvAt K C L W H l pa q [] ∧ ∀ a H', H a = none → Same H H' → H' a = some (.lst []) → Q (.ref a) H'
section
variable {P : Program} {w : World} {K : PySem.W.Frag} {mg : Str → Option Value} {base : Heap} {C L NT f : Addr} {fd : FuncData}
theorem ok_backE (F : FnM K "back" "Live.back" s_Live_back f fd) (N : NTU K mg NT) (T : TxtN mg) :
    FnOk P w K mg base (L2N.CX P w) 1 f fd ["self"] (sp_backE K C L NT) := by
  refine F.ok sc_Live_back (fun vs H Q E h => ?_) (fun cdv A outer s H vs Q E hr h => ?_)
  · obtain ⟨l, pa, W, q, rfl, _⟩ := h
    rfl
  obtain ⟨l, pa, W, q, rfl, hL, sW, hv, hQ⟩ := h
  refine ⟨_, (pss_cons (ps_if (pt_cmpR (show OpR _ (compareOp .Eq) (Lst0.rLst0 K) from Lst0.op_lst0 hr.units0) (Rd.pe_fldK (K := K) rfl (pv 0) rfl) (pe_lst pa_nil) (nomark _)) (pss_one (L2N.ps_raise rfl (L2N.takes_of rfl rfl rfl rfl) (HotL.pmk_bare N.x N.i N.g (raises_own N.b N.t) (by exact rfl)))) pss_nil)
    (pss_one ps_never)), ?_⟩
  obtain ⟨dx, p, xs, h1, h2, h3, h4, h5, h6, h7⟩ := hv
  cases h7
  walk_at "rd"
  refine Rd.fldAt h1 hL.c hL.n2 rfl ?_
  walk_at "rd"
  refine ⟨Nat.zero_le _, fun b hb => ?_⟩
  have s1 := same_upd (o := HO.lst []) hb
  refine Lst0.at_ (.inl (.inl (s1 _ _ h2))) (.inl (.inl upd_same)) ?_
  refine Rd.bl (Rd.brT rfl ?_)
  exact hQ _ s1
theorem ok_logH (F : FnM K "log" "Live.log" s_Live_log f fd) (T : TxtN mg) : L2H.FnH P w K mg base CX0 1 f fd ["self"] (sp_logH K C L) := by
  obtain ⟨oc, od, dV, kV, doc, pm, an, cdv, ct, osl, rfl, lk, hcd, _, _⟩ := F.ex
  refine L2H.fn_ofH lk hcd sc_Live_log (fun vs H Q E h => ?_) (fun A outer s H vs Q E p hot hr h => ?_)
  · obtain ⟨l, pa, W, q, rfl, _⟩ := h
    rfl
  obtain ⟨l, pa, W, q, rfl, hL, hv, hQ⟩ := h
  refine ⟨_, PSs.nox (pss_cons (ps_set (i := 1) sc_Live_log.nd rfl (by first | exact Or.inl rfl | exact Or.inr rfl) (pe_lst pa_nil)) (pss_cons (L2H.ps_forH PassesOwn.never ⟨p, hot, List.mem_singleton_self _⟩ (HotL.pi_listH (K := K) rfl (Rd.pe_fldK (K := K) rfl (pv 0) rfl)) HotL.pg_never (pss_one ps_never)) (pss_one (ps_ret (pv 1))))), ?_⟩
  obtain ⟨dx, p, xs, h1, h2, h3, h4, h5, h6, h7⟩ := hv
  cases h7
  walk_at "rd"
  refine mkLs fun a H1 n1 s1 e1 => ?_
  walk_at "rd"
  refine Rd.fldAt (s1 _ _ h1) hL.c hL.n2 rfl ?_
  refine Rd.l1 (.inl (.inl (s1 _ _ h2))) ?_
  refine Rd.byL (xs := []) (fun i σ H' => σ = [some (.ref l), some (.ref a), none, none] ∧ H' = H1) ⟨rfl, rfl⟩ (fun i σ H' hi h => ?_) (fun i x σ H' hi h => by simp at hi) (fun σ H3 h => ?_)
  · rw [h.2]
    exact .inl (.inl (s1 _ _ h2))
  · obtain ⟨rfl, rfl⟩ := h
    walk_at "rd"
    exact hQ a _ n1 s1 e1
end
theorem meth0 {C : Addr} {m : Str} {sp : Sp} {E : L2.St → XK} {ta : TE} {σ : L2.St} {H : Hp} {Q : VK} (q : ta σ H fun x H1 => ∃ a dx fs, x = .ref a ∧ H1 a = some (.ins C dx fs) ∧ fs.lookup m = none ∧ sp [x] H1 Q (E σ)) : HotL.tMeth0 C m sp E ta σ H Q := q
abbrev s_law_undone : Stmt := top 43
abbrev N_law_undone : List Str := ["live", "state", "deed", "ahead"]
theorem sc_law_undone : FnScope N_law_undone ["live", "state"] (defScope s_law_undone) := ⟨rfl, rfl, rfl, by decide +kernel, rfl, by decide +kernel, by decide +kernel⟩
def sp_undone (K : PySem.W.Frag) (C L : Addr) : Sp := fun vs H Q _ => ∃ (l pa st : Addr) (W : Hp) (q : Parts) (log : List (PyData × Parts)), vs = [.ref l, .ref st] ∧ PCls K C ∧ LCls K L ∧ Same W H ∧ LvAt K C L W H l pa q log ∧ StAt K W H st q log ∧ (∀ e, e ∈ log → Fits e.2) ∧ log.length ≤ 200 ∧
  ∀ W' H', ButS (Two l pa) H H' → Grow W W' H → Same W' H' → (∀ x o, H x = some o → ∃ u, H' x = some u) → Q (.bl true) H'
section
variable {P : Program} {w : World} {K : PySem.W.Frag} {mg : Str → Option Value} {base : Heap} {C L NT f f_k f_g f_s f_p f_e : Addr} {fd fd_k fd_g fd_s fd_p fd_e : FuncData}
theorem ok_undone (F : FnP K "_law_undone" s_law_undone f fd) (c_Live : Cls K L) (N : NTU K mg NT)
    (m_Live_back : Meth K L "back" f_k) (G_Live_back : FnOk P w K mg base CX0 1 f_k fd_k ["self"] (sp_back0 K C L)) (G_backE : FnOk P w K mg base (L2N.CX P w) 1 f_k fd_k ["self"] (sp_backE K C L NT)) (b_Live_back : Binds K fd_k ["self"] [])
    (m_Live_log : Meth K L "log" f_g) (G_logH : L2H.FnH P w K mg base CX0 1 f_g fd_g ["self"] (sp_logH K C L)) (b_Live_log : Binds K fd_g ["self"] [])
    (m_Live_shown : Meth K L "shown" f_s) (G_Live_shown : FnOk P w K mg base CX0 18 f_s fd_s ["self"] (sp_shown K C L)) (b_Live_shown : Binds K fd_s ["self"] [])
    (G_law_program : FnOk P w K mg base CX0 18 f_p fd_p ["parts"] (sp_lprogram K C)) (g_law_program : mg "_law_program" = some (.ref f_p)) (k_law_program : PySem.W.keepIn K (.ref f_p) = true) (b_law_program : Binds K fd_p ["parts"] [])
    (G_Program_eq : FnOk P w K mg base CX0 16 f_e fd_e ["self", "other"] (sp_peq K C)) (s_peq : PySem.W.findIn K (.ref C) "__eq__" = some (some (.ref f_e))) (f_peq : PySem.W.isFn K (.ref f_e) = true) (n_peq : PySem.W.findIn K (.ref C) "__ne__" = some (some (.builtin "object.__ne__"))) (o_peq : PySem.W.mroIn K C (.type "object") = some true) (b_Program_eq : Binds K fd_e ["self", "other"] [])
    (T : TxtL mg) : FnOk P w K mg base CX0 20 f fd ["live", "state"] (sp_undone K C L) := by
  refine F.ok sc_law_undone (fun vs H Q E h => ?_) (fun cdv A outer s H vs Q E hr h => ?_)
  · obtain ⟨l, pa, st, W, q, log, rfl, _⟩ := h
    rfl
  obtain ⟨l, pa, st, W, q, log, rfl, hC, hL, sW, hv, hs, hft, hlen, hQ⟩ := h
  refine ⟨_, PSs.nox (pss_cons (ps_for PassesOwn.never rfl (Rd.pi_listK (K := K) rfl (Rd.pe_revLK (K := K) rfl (pe_ix (show IxR _ (rIxL K) from ix_list) (pv 1) pe_int (fun _ _ => rfl)))) (Rd.pg_tupK (K := K) (n := 2) rfl (by rfl) (pgs_cons (pg_name (i := 2) sc_law_undone.nd rfl (by first | exact Or.inl rfl | exact Or.inr rfl)) (pgs_cons (pg_name (i := 3) sc_law_undone.nd rfl (by first | exact Or.inl rfl | exact Or.inr rfl)) pgs_nil))) (pss_cons (ps_expr (pe_meth0 (pv 0) c_Live m_Live_back G_Live_back (hr.mono (by omega)) b_Live_back .nil pass0))
    (pss_one (ps_if (pt_cmpR (show OpR _ (compareOp .NotEq) (NeIns.rNeI C (sp_peq K C) E0) from NeIns.op_neI G_Program_eq s_peq f_peq n_peq o_peq b_Program_eq (hr.mono (by omega)) pass0) (pe_meth0 (pv 0) c_Live m_Live_shown G_Live_shown (hr.mono (by omega)) b_Live_shown .nil pass0) (pe_call G_law_program (hr.mono (by omega)) rfl g_law_program k_law_program b_law_program .nil pass0 (pa_cons (pv 3) pa_nil)) (nomark _)) (pss_one (ps_ret pe_bl)) pss_nil))))
    (pss_cons (L2N.ps_try_many (tb := fun W => tDrop (HotL.tMeth0 L "back" (sp_backE K C L NT) (WE W) (tVar 0))) (l := [(.ref NT, fun _ _ _ => tRet (tOp (Lst0.rLst0 K) (HotL.tMeth0 L "log" (sp_logH K C L) (fun _ => E0) (tVar 0)) (tLst tNil)))]) (Wout := fun _ _ _ _ => False) rfl rfl HotL.takesN0 (fun W pn xe tk _ => pss_one (ps_expr (HotL.pe_methS0 (pv 0) c_Live m_Live_back G_backE (hr.mono (by omega)) b_Live_back (fun σ => L2N.passAt tk σ)))) (.cons ⟨rfl, by decide, Or.inl N.g⟩ (fun a oe cls d pn hz hf => pss_one (ps_ret (pe_cmpR (show OpR _ (compareOp .Eq) (Lst0.rLst0 K) from Lst0.op_lst0 hr.units0) (HotL.pe_methH0 (pv 0) c_Live m_Live_log G_logH ⟨(hr.mono (by omega) : Room 1 _).dp, (hr.mono (by omega) : Room 1 _).un⟩ ⟨(a, oe), ⟨rfl, hf.elim fun vs hv => ⟨vs, hv, hz.2.2 vs hv⟩⟩, List.mem_cons_self⟩ b_Live_log (fun σ _ _ _ _ _ _ h => h.elim)) (pe_lst pa_nil) (nomark _)))) .nil))
    (pss_one (ps_ret pe_bl)))), ?_⟩
  obtain ⟨T0, S0, hst, wst, hT, hS⟩ := id hs
  obtain ⟨_, sx, e0, hSs, hSx⟩ := lst_inv hS
  cases e0
  have lsx := dqAll_len hSx
  rw [List.length_map] at lsx
  have hSr := dqAll_rev hSx
  rw [← List.map_reverse] at hSr
  obtain ⟨dxl, p0, xs0, x1, x2, _⟩ := id hv
  walk_at "rd"
  refine Rd.revAt (sW.seq hSs) fun R hR => ?_
  have s1 := same_upd (o := HO.lst sx.reverse) hR
  refine Rd.l1 (.inl (.inl upd_same)) ?_
  have Rl : R ≠ l := (ne_of_none x1 hR).symm
  have Rp : R ≠ pa := (ne_of_none x2 hR).symm
  refine Rd.byL (xs := sx.reverse) (fun i σ H' => ∃ o2 o3 W' q', σ = [some (.ref l), some (.ref st), o2, o3] ∧ ButS (Two l pa) H H' ∧ Grow W W' H ∧ Same W' H' ∧ LvAt K C L W' H' l pa q' (log.take (log.length - i)) ∧ H' R = some (.lst sx.reverse))
    ⟨none, none, W, q, rfl, ButS.of s1, Grow.refl, sW.trans s1, (by rw [Nat.sub_zero, List.take_length]; exact hv.keep Grow.refl (fun o e => s1 _ _ e) fun o e => s1 _ _ e), upd_same⟩ (fun i σ H' hi h => ?_) (fun i x σ H' hi h => ?_) (fun σ H3 h => ?_)
  · obtain ⟨_, _, _, _, _, _, _, _, _, h⟩ := h
    exact .inl (.inl h)
  · obtain ⟨o2, o3, W', q', rfl, c1, c2, c3, c4, c5⟩ := h
    obtain ⟨e, he, hx⟩ := ds_get hSr hi
    have li : i < log.length := by
      have := (List.getElem?_eq_some_iff.mp he).1
      rw [List.length_reverse] at this
      exact this
    rw [List.getElem?_reverse li] at he
    have hm := List.mem_of_getElem? he
    have et : log.take (log.length - i) = log.take (log.length - (i + 1)) ++ [(e.1, e.2)] := by
      rw [show log.length - i = (log.length - 1 - i) + 1 by omega, List.take_add_one, he, show log.length - (i + 1) = log.length - 1 - i by omega]
      rfl
    rw [et] at c4
    obtain ⟨t, ys, rfl, ht, hys⟩ := tup_inv hx
    obtain ⟨y1, y2, rfl, z1, z2⟩ := two_inv hys
    obtain ⟨T5, R5, O5, F5, rfl, hTs, dR, dO, dF⟩ := parts_inv z2
    refine Rd.tgt (Rd.tgAt (sqT_same (c2.s.trans c3) ht) rfl ?_)
    refine Rd.gcons (Rd.name (Rd.gcons (Rd.name (Rd.gnil ?_))))
    refine toS (σ' := [some (.ref l), some (.ref st), some y1, some (.ref T5)]) rfl ?_
    obtain ⟨dx4, fs4, i4, _, _, _, m4⟩ := c4.inm
    walk_at "rd"
    refine Rd.methAt i4 m4 ?_
    walk_at "rd"
    refine ⟨l, pa, W', q', e.2, _, e.1, rfl, hL, c3, c4, fun W5 H5 b5 g5 s5 lv5 => ?_⟩
    obtain ⟨dx5, fs5, i5, m5, _⟩ := lv5.inm
    walk_at "rd"
    refine Rd.methAt i5 m5 ?_
    walk_at "rd"
    refine ⟨l, pa, W5, e.2, _, rfl, hC, hL, s5, lv5, fun p9 W9 H9 s9 g9 sW9 hp9 n9 => ?_⟩
    walk_at "rd"
    have al1 : ∀ x o, H x = some o → ∃ u, H' x = some u := c1.alive c4
    have al5 := al_trans al1 (b5.alive lv5)
    have g05 : Grow W W5 H := c2.trans g5 al1
    have g09 : Grow W W9 H := g05.trans g9 al5
    have ft := hft e hm
    refine ⟨T5, R5, O5, F5, W9, e.2, rfl, hC, sW9, sW9.seq (g09.s.seq hTs), Dq.same g09.s _ _ dR, Dq.same g09.s _ _ dO, Dq.same g09.s _ _ dF, ft, fun p8 W8 H8 s8 g8 sW8 hp8 n8 => ?_⟩
    obtain ⟨_, _, i9⟩ := hp9.ins
    obtain ⟨_, _, i8⟩ := hp8.ins
    refine ⟨p9, p8, _, _, _, _, rfl, rfl, s8 _ _ (sW9 _ _ i9), sW8 _ _ i8, .inl ⟨p9, p8, W8, e.2, e.2, rfl, sW8, hp9.same g8.s, hp8, fun H10 s10 => ⟨_, rfl, ?_⟩⟩⟩
    refine Rd.bl (Rd.brF (by rw [eqP_refl ft]; rfl) ?_)
    walk_at "rd"
    have s510 := (s9.trans s8).trans s10
    exact ⟨_, _, W8, e.2, rfl, c1.trans (b5.trans (ButS.of s510)), g09.trans g8 (al_trans al5 (Same.alive s9)), sW8.trans s10, lv5.keep (g9.trans g8 (Same.alive s9)) (fun o e => s510 _ _ e) (fun o e => s510 _ _ e), s510 _ _ (b5 R _ (fun z => z.elim Rl Rp) c5)⟩
  · obtain ⟨o2, o3, W', q', rfl, c1, c2, c3, c4, c5⟩ := h
    rw [List.length_reverse, lsx, Nat.sub_self, List.take_zero] at c4
    have al3 := c1.alive c4
    obtain ⟨dx4, fs4, i4, _, m3, _, m4⟩ := c4.inm
    refine Rd.seq (Rd.drop (meth0 (Rd.var rfl ⟨l, dx4, fs4, rfl, i4, m4, l, pa, W', q', rfl, hL, c3, c4, fun H9 s9 => ?_⟩)))
    refine ⟨true, N.e, fun _ a na => ?_, fun z => nomatch z⟩
    have lv9 : LvAt K C L W' H9 l pa q' [] := c4.keep Grow.refl (fun o e => s9 _ _ e) fun o e => s9 _ _ e
    refine Rd.ret (Rd.op (meth0 (Rd.var rfl ⟨l, dx4, fs4, rfl, s9 _ _ i4, m3, l, pa, W', q', rfl, hL, lv9, fun b H10 nb s10 e10 => ?_⟩)))
    refine Rd.lst (Rd.nil (mkLs fun b2 H11 n11 s11 e11 => ?_))
    refine Lst0.at_ (.inl (.inl (s11 _ _ e10))) (.inl (.inl e11)) ?_
    have s3 := (s9.trans s10).trans s11
    exact hQ W' H11 (c1.trans (ButS.of s3)) c2 (c3.trans s3) (al_trans al3 (Same.alive s3))
end

end Bs
set_option Elab.async false
set_option linter.all false
set_option maxRecDepth 100000
set_option maxHeartbeats 400000
/-! the law's lives; other things -/
namespace Bs
open PySem PySem.Spec PyProof.Rows L2 Gd Er
local macro_rules | `(tactic| walk_at "rdc") => `(tactic| (first
  | assumption | exact Or.inl ⟨by omega, by omega⟩ | exact Or.inr ⟨by omega, by omega⟩ | exact Or.inl ⟨by decide, by decide⟩ | exact Or.inr ⟨by decide, by decide⟩
  | (show (0 : Int) < _; omega) | (show (0 : Int) < _; decide) | decide | omega | exact ⟨by decide, by decide, by decide⟩ | exact ⟨by decide, by decide +kernel⟩ | decide +kernel))
local macro_rules | `(tactic| walk_at "rdh") => `(tactic| (first | assumption | exact upd_same))
local macro_rules | `(tactic| walk_at "rd1") => `(tactic| (first
  | (with_reducible refine Rd.var rfl ?_) | (with_reducible refine Rd.con ?_) | (with_reducible refine Rd.op ?_) | (with_reducible refine Rd.un ?_) | (with_reducible refine Rd.i0 ?_) | (with_reducible refine Rd.iu ?_)
  | (with_reducible refine Rd.nil ?_) | (with_reducible refine Rd.cons ?_) | (with_reducible refine Rd.cb ?_) | (with_reducible refine Rd.asg ?_) | (with_reducible refine Rd.name ?_) | (with_reducible refine Rd.sub ?_) | (with_reducible refine Rd.rev ?_) | (with_reducible refine Rd.drop ?_) | (with_reducible refine Rd.bm ?_) | (with_reducible refine Rd.par ?_) | (with_reducible refine Rd.p2 ?_) | (with_reducible refine Rd.sl ?_) | (with_reducible refine Rd.noPart ?_) | (with_reducible refine Rd.part ?_) | (with_reducible refine Rd.int_ ?_) | (with_reducible refine Rd.seq ?_)
  | (with_reducible refine Rd.ret ?_) | (with_reducible refine Rd.retN ?_) | (with_reducible refine Rd.nxt ?_) | (with_reducible refine Rd.tst ?_) | (with_reducible refine Rd.tb_ ?_) | (with_reducible refine Rd.tnot ?_)
  | (with_reducible refine Rd.tor ?_) | (with_reducible refine Rd.tand ?_) | (with_reducible refine Rd.ifs ?_) | (with_reducible refine Rd.ife ?_) | (with_reducible refine Rd.lst ?_) | (with_reducible refine Rd.tup ?_)
  | (with_reducible refine Rd.int1 ?_) | (with_reducible refine Rd.bl ?_) | (with_reducible refine Rd.call ?_)
  | (with_reducible refine Rd.mx ?_) | (with_reducible refine Rd.bits ?_) | (with_reducible refine Rd.forR ?_) | (with_reducible refine Rd.forL ?_) | (with_reducible refine Rd.lcR ?_) | (with_reducible refine Rd.lcL ?_) | (with_reducible refine Rd.lcT ?_) | (with_reducible refine Rd.chain ?_) | (with_reducible refine Rd.notv ?_) | (with_reducible refine Rd.forS ?_) | (with_reducible refine Rd.lcS ?_) | (with_reducible refine Rd.str_ ?_) | (with_reducible refine Rd.forE ?_) | (with_reducible refine Rd.lcI ?_) | (with_reducible refine Rd.tgt ?_) | (with_reducible refine Rd.gcons ?_) | (with_reducible refine Rd.gnil ?_) | (with_reducible refine Rd.fld ?_) | (with_reducible refine Rd.sfld ?_) | (with_reducible refine Rd.meth ?_) | (with_reducible refine Rd.forT ?_)
  | ((with_reducible refine' Rd.ixLT ?rh ?ra ?_); (case rh => walk_at "rdh"); (case ra => rfl))
  | ((with_reducible refine' Rd.setL ?rh ?ra ?_); (case rh => walk_at "rdh"); (case ra => rfl))
  | ((with_reducible refine Rd.ic ?rc ?_); (case rc => walk_at "rdc"))))
local macro_rules | `(tactic| walk_at "rd") => `(tactic| (repeat (walk_at "rd1")))

/-! ### all lives -/
def Own (e : Lv) (b : Addr) : Prop := b = e.l ∨ b = e.pa ∨ b = e.st
structure All (K : PySem.W.Frag) (C L : Addr) (q0 : Parts) (lo m : Nat) (A1 A2 : Addr) (W H : Hp) (ls : List Lv) : Prop where
  s : Same W H
  a1 : H A1 = some (.lst (ls.map fun e => .ref e.l))
  a2 : H A2 = some (.lst (ls.map fun e => .ref e.st))
  w1 : W A1 = none
  w2 : W A2 = none
  a12 : A1 ≠ A2
  n0 : 1 ≤ ls.length
  n1 : ls.length ≤ 4
  e : ∀ (j : Nat) (e : Lv), lo ≤ j → ls[j]? = some e → LvAt K C L W H e.l e.pa e.q e.log ∧ StAt K W H e.st e.q e.log ∧ Good q0 e.q e.log ∧ e.log.length ≤ m
  al : ∀ (j : Nat) (e : Lv), ls[j]? = some e → ∃ o1 o2 o3, H e.l = some o1 ∧ H e.pa = some o2 ∧ H e.st = some o3
  ap : ∀ (i j : Nat) (e f : Lv) (b : Addr), ls[i]? = some e → ls[j]? = some f → Own e b → Own f b → i = j
  ow : ∀ (j : Nat) (e : Lv), ls[j]? = some e → e.l ≠ e.st ∧ e.pa ≠ e.st ∧ ¬ Own e A1 ∧ ¬ Own e A2
section
variable {K : PySem.W.Frag} {C L : Addr} {q0 : Parts} {lo m : Nat} {A1 A2 : Addr} {W H W' H' : Hp} {ls : List Lv}
theorem All.mono {m' : Nat} (a : All K C L q0 lo m A1 A2 W H ls) (h : m ≤ m') : All K C L q0 lo m' A1 A2 W H ls :=
  ⟨a.s, a.a1, a.a2, a.w1, a.w2, a.a12, a.n0, a.n1, fun j e hj he => by
    obtain ⟨x, y, z, w⟩ := a.e j e hj he
    exact ⟨x, y, z, Nat.le_trans w h⟩, a.al, a.ap, a.ow⟩
/-- nothing of it changes -/
theorem All.keep (a : All K C L q0 lo m A1 A2 W H ls) (k : ∀ b o, (b = A1 ∨ b = A2 ∨ ∃ (j : Nat) (e : Lv), ls[j]? = some e ∧ Own e b) → H b = some o → H' b = some o) (gr : Grow W W' H) (s : Same W' H') : All K C L q0 lo m A1 A2 W' H' ls := by
  refine ⟨s, k _ _ (.inl rfl) a.a1, k _ _ (.inr (.inl rfl)) a.a2, gr.n _ _ a.a1 a.w1, gr.n _ _ a.a2 a.w2, a.a12, a.n0, a.n1, fun j e hj he => ?_, fun j e he => ?_, a.ap, a.ow⟩
  · obtain ⟨x, y, z, w⟩ := a.e j e hj he
    exact ⟨x.keep gr (fun o q => k _ _ (.inr (.inr ⟨j, e, he, .inl rfl⟩)) q) (fun o q => k _ _ (.inr (.inr ⟨j, e, he, .inr (.inl rfl)⟩)) q), y.keep gr (fun o q => k _ _ (.inr (.inr ⟨j, e, he, .inr (.inr rfl)⟩)) q), z, w⟩
  · obtain ⟨o1, o2, o3, x, y, z⟩ := a.al j e he
    exact ⟨o1, o2, o3, k _ _ (.inr (.inr ⟨j, e, he, .inl rfl⟩)) x, k _ _ (.inr (.inr ⟨j, e, he, .inr (.inl rfl)⟩)) y, k _ _ (.inr (.inr ⟨j, e, he, .inr (.inr rfl)⟩)) z⟩
theorem All.up (a : All K C L q0 lo m A1 A2 W H ls) (gr : Grow W W' H) (sH : Same H H') (s : Same W' H') : All K C L q0 lo m A1 A2 W' H' ls := a.keep (fun b o _ e => sH b o e) gr s
/-- what is new is no part of it -/
theorem All.fresh (a : All K C L q0 lo m A1 A2 W H ls) {g : Addr} (hg : H g = none) : g ≠ A1 ∧ g ≠ A2 ∧ ∀ (j : Nat) (e : Lv), ls[j]? = some e → ¬ Own e g := by
  refine ⟨fun z => (by rw [z, a.a1] at hg; cases hg), fun z => (by rw [z, a.a2] at hg; cases hg), fun j e he z => ?_⟩
  obtain ⟨o1, o2, o3, x, y, w⟩ := a.al j e he
  rcases z with z | z | z
  · rw [z, x] at hg; cases hg
  · rw [z, y] at hg; cases hg
  · rw [z, w] at hg; cases hg
/-- g is no part of it -/
def Off (g A1 A2 : Addr) (ls : List Lv) : Prop := g ≠ A1 ∧ g ≠ A2 ∧ ∀ (j : Nat) (e : Lv), ls[j]? = some e → ¬ Own e g
theorem All.draw {g : Addr} (a : All K C L q0 lo m A1 A2 W H ls) (b : But g H H') (f : Off g A1 A2 ls) (wg : W g = none) : All K C L q0 lo m A1 A2 W H' ls := by
  refine a.keep (fun x o h e => b x o (fun z => ?_) e) Grow.refl (b.same a.s wg)
  rcases h with h | h | ⟨j, e, he, h⟩
  · exact f.1 (z.symm.trans h)
  · exact f.2.1 (z.symm.trans h)
  · exact f.2.2 j e he (z ▸ h)
theorem set_get {i j : Nat} {e e' f : Lv} (he : ls[i]? = some e) (h : (ls.set i e')[j]? = some f) : (j = i ∧ f = e') ∨ (j ≠ i ∧ ls[j]? = some f) := by
  by_cases c : i = j
  · subst c
    rw [List.getElem?_set_self (List.getElem?_eq_some_iff.mp he).1] at h
    cases h
    exact .inl ⟨rfl, rfl⟩
  · rw [List.getElem?_set_ne c] at h
    exact .inr ⟨fun z => c z.symm, h⟩
theorem map_set_eq {α : Type} {f : Lv → α} {i : Nat} {e e' : Lv} (he : ls[i]? = some e) (h : f e' = f e) : (ls.set i e').map f = ls.map f := by
  rw [List.map_set, h]
  refine List.ext_getElem? fun j => ?_
  by_cases c : i = j
  · subst c
    rw [List.getElem?_set_self (by rw [List.length_map]; exact (List.getElem?_eq_some_iff.mp he).1), List.getElem?_map, he]
    rfl
  · rw [List.getElem?_set_ne c]
/-- a deed of one of them -/
theorem All.step {g : Addr} {i : Nat} {e : Lv} {q' : Parts} {log' : List (PyData × Parts)} (a : All K C L q0 0 m A1 A2 W H ls) (he : ls[i]? = some e) (f : Off g A1 A2 ls) (b : ButS (Four g e.l e.pa e.st) H H') (gr : Grow W W' H) (s : Same W' H')
    (lv : LvAt K C L W' H' e.l e.pa q' log') (st : StAt K W' H' e.st q' log') (gd : Good q0 q' log') (n : log'.length ≤ m + 1) : All K C L q0 0 (m + 1) A1 A2 W' H' (ls.set i ⟨e.l, e.pa, e.st, q', log'⟩) := by
  have no : ∀ x, (x = A1 ∨ x = A2 ∨ ∃ (j : Nat) (f : Lv), j ≠ i ∧ ls[j]? = some f ∧ Own f x) → ¬ Four g e.l e.pa e.st x := fun x h z => by
    have zz : x = g ∨ Own e x := z.elim .inl .inr
    obtain ⟨_, _, o1, o2⟩ := a.ow i e he
    rcases h with h | h | ⟨j, e', hj, he', h⟩
    · subst h
      exact zz.elim (fun z => f.1 z.symm) o1
    · subst h
      exact zz.elim (fun z => f.2.1 z.symm) o2
    · exact zz.elim (fun z => f.2.2 j e' he' (z ▸ h)) (fun z => hj (a.ap j i e' e x he' he h z))
  have e1 : (ls.set i ⟨e.l, e.pa, e.st, q', log'⟩).map (fun e => V.ref e.l) = ls.map fun e => .ref e.l := map_set_eq he rfl
  have e2 : (ls.set i ⟨e.l, e.pa, e.st, q', log'⟩).map (fun e => V.ref e.st) = ls.map fun e => .ref e.st := map_set_eq he rfl
  refine ⟨s, by rw [e1]; exact b _ _ (no _ (.inl rfl)) a.a1, by rw [e2]; exact b _ _ (no _ (.inr (.inl rfl))) a.a2, gr.n _ _ a.a1 a.w1, gr.n _ _ a.a2 a.w2, a.a12, by rw [List.length_set]; exact a.n0, by rw [List.length_set]; exact a.n1, fun j f' hj hf => ?_, fun j f' hf => ?_, fun j k f1 f2 x h1 h2 h3 h4 => ?_, fun j f' hf => ?_⟩
  · rcases set_get he hf with ⟨rfl, rfl⟩ | ⟨c, hf⟩
    · exact ⟨lv, st, gd, n⟩
    · obtain ⟨x, y, z, w⟩ := a.e j f' hj hf
      have kk : ∀ b o, Own f' b → H b = some o → H' b = some o := fun x o h e => b x o (no x (.inr (.inr ⟨j, f', c, hf, h⟩))) e
      exact ⟨x.keep gr (fun o q => kk _ _ (.inl rfl) q) (fun o q => kk _ _ (.inr (.inl rfl)) q), y.keep gr (fun o q => kk _ _ (.inr (.inr rfl)) q), z, Nat.le_succ_of_le w⟩
  · rcases set_get he hf with ⟨rfl, rfl⟩ | ⟨c, hf⟩
    · obtain ⟨dx, p, xs, h1, h2, _⟩ := lv
      obtain ⟨T, S, h3, _⟩ := st
      exact ⟨_, _, _, h1, h2, h3⟩
    · obtain ⟨o1, o2, o3, x, y, z⟩ := a.al j f' hf
      have kk : ∀ b o, Own f' b → H b = some o → H' b = some o := fun x o h e => b x o (no x (.inr (.inr ⟨j, f', c, hf, h⟩))) e
      exact ⟨o1, o2, o3, kk _ _ (.inl rfl) x, kk _ _ (.inr (.inl rfl)) y, kk _ _ (.inr (.inr rfl)) z⟩
  · have un : ∀ {j : Nat} {f : Lv}, (ls.set i ⟨e.l, e.pa, e.st, q', log'⟩)[j]? = some f → Own f x → ∃ f', ls[j]? = some f' ∧ Own f' x := fun {j f} h ho => by
      rcases set_get he h with ⟨rfl, rfl⟩ | ⟨_, h⟩
      · exact ⟨e, he, ho⟩
      · exact ⟨f, h, ho⟩
    obtain ⟨g1, k1, k2⟩ := un h1 h3
    obtain ⟨g2, k3, k4⟩ := un h2 h4
    exact a.ap j k g1 g2 x k1 k3 k2 k4
  · rcases set_get he hf with ⟨rfl, rfl⟩ | ⟨c, hf⟩
    · exact a.ow _ e he
    · exact a.ow j f' hf
/-- one more, a copy -/
theorem All.more {i : Nat} {e : Lv} {l2 pa2 st2 : Addr} (a : All K C L q0 0 m A1 A2 W H ls) (he : ls[i]? = some e) (n : ls.length < 4) (hl : H l2 = none) (hp : H pa2 = none) (hs : H st2 = none) (ne : l2 ≠ st2 ∧ pa2 ≠ st2)
    (lv : LvAt K C L W H' l2 pa2 e.q e.log) (st : StAt K W H' st2 e.q e.log) (s : Same W H') (k : ∀ b o, b ≠ A1 → b ≠ A2 → H b = some o → H' b = some o)
    (a1 : H' A1 = some (.lst (ls.map (fun e => .ref e.l) ++ [.ref l2]))) (a2 : H' A2 = some (.lst (ls.map (fun e => .ref e.st) ++ [.ref st2]))) : All K C L q0 0 m A1 A2 W H' (ls ++ [⟨l2, pa2, st2, e.q, e.log⟩]) := by
  obtain ⟨_, _, gd, nm⟩ := a.e i e (Nat.zero_le _) he
  have get : ∀ {j : Nat} {f : Lv}, (ls ++ [⟨l2, pa2, st2, e.q, e.log⟩])[j]? = some f → ls[j]? = some f ∨ (j = ls.length ∧ f = ⟨l2, pa2, st2, e.q, e.log⟩) := fun {j f} h => by
    by_cases c : j < ls.length
    · rw [List.getElem?_append_left c] at h
      exact .inl h
    · rw [List.getElem?_append_right (by omega)] at h
      cases z : j - ls.length with
      | zero =>
        rw [z] at h
        cases h
        exact .inr ⟨by omega, rfl⟩
      | succ y => rw [z] at h; cases h
  have nw : ∀ x, Own ⟨l2, pa2, st2, e.q, e.log⟩ x → H x = none := fun x h => by
    rcases h with h | h | h <;> (rw [h]; assumption)
  refine ⟨s, by rw [List.map_append]; exact a1, by rw [List.map_append]; exact a2, a.w1, a.w2, a.a12, by rw [List.length_append]; have := a.n0; omega, by rw [List.length_append]; show ls.length + 1 ≤ 4; omega, fun j f hj hf => ?_, fun j f hf => ?_, fun j y f1 f2 x h1 h2 h3 h4 => ?_, fun j f hf => ?_⟩
  · rcases get hf with hf | ⟨_, rfl⟩
    · obtain ⟨x, y, z, w⟩ := a.e j f hj hf
      obtain ⟨_, _, o1, o2⟩ := a.ow j f hf
      have kk : ∀ b o, Own f b → H b = some o → H' b = some o := fun b o h e => k b o (fun z => o1 (z ▸ h)) (fun z => o2 (z ▸ h)) e
      exact ⟨x.keep Grow.refl (fun o q => kk _ _ (.inl rfl) q) (fun o q => kk _ _ (.inr (.inl rfl)) q), y.keep Grow.refl (fun o q => kk _ _ (.inr (.inr rfl)) q), z, w⟩
    · exact ⟨lv, st, gd, nm⟩
  · rcases get hf with hf | ⟨_, rfl⟩
    · obtain ⟨x1, x2, x3, x, y, z⟩ := a.al j f hf
      obtain ⟨_, _, o1, o2⟩ := a.ow j f hf
      have kk : ∀ b o, Own f b → H b = some o → H' b = some o := fun b o h e => k b o (fun z => o1 (z ▸ h)) (fun z => o2 (z ▸ h)) e
      exact ⟨_, _, _, kk _ _ (.inl rfl) x, kk _ _ (.inr (.inl rfl)) y, kk _ _ (.inr (.inr rfl)) z⟩
    · obtain ⟨dx, p, xs, h1, h2, _⟩ := lv
      obtain ⟨T, S, h3, _⟩ := st
      exact ⟨_, _, _, h1, h2, h3⟩
  · rcases get h1 with g1 | ⟨z1, rfl⟩
    · rcases get h2 with g2 | ⟨z2, rfl⟩
      · exact a.ap j y f1 f2 x g1 g2 h3 h4
      · exact absurd h3 ((a.fresh (nw x h4)).2.2 j f1 g1)
    · rcases get h2 with g2 | ⟨z2, rfl⟩
      · exact absurd h4 ((a.fresh (nw x h3)).2.2 y f2 g2)
      · rw [z1, z2]
  · rcases get hf with hf | ⟨_, rfl⟩
    · exact a.ow j f hf
    · refine ⟨ne.1, ne.2, fun z => ?_, fun z => ?_⟩
      · have := nw _ z
        rw [a.a1] at this; cases this
      · have := nw _ z
        rw [a.a2] at this; cases this
end
theorem gen_new {H : Hp} {g : Addr} {x y : Int} {k n : Nat} (e : H g = some (.lst [.int x, .int y, .int (1000 * (k : Int))])) (h : GenOk x y (1000 * (k : Int))) (hk : k ≤ 100) (hn : n ≤ 1000000) : GenAt H g n := by
  obtain ⟨h1, h2, h3, h4, h5⟩ := h
  exact ⟨x, y, _, e, h1, h2, h3, h4, by
    have : (2 : Int) ^ 40 = 1099511627776 := by decide
    omega⟩
/-! ### other things -/
def Odd (K : PySem.W.Frag) (C L : Addr) (W H : Hp) (q : Parts) (v : V) : Prop := (∃ d, Dq K W v d) ∨ (∃ p q', v = .ref p ∧ PAt K C W p q') ∨ ∃ l pa q' log, v = .ref l ∧ LvAt K C L W H l pa q' log ∧ eqP q q' = false ∧ eqP q' q = false
theorem eqvAll_len : ∀ {a b : List PyData}, PyData.eqvAll a b = true → a.length = b.length
  | [], [], _ => rfl
  | x :: xs, y :: ys, h => by
    have h : (PyData.eqv x y && PyData.eqvAll xs ys) = true := h
    rw [List.length_cons, List.length_cons, eqvAll_len (Bool.and_eq_true_iff.mp h).2]
  | [], _ :: _, h => nomatch h
  | _ :: _, [], h => nomatch h
theorem eqP_len {p q : Parts} (h : p.rs.length ≠ q.rs.length) : eqP p q = false := by
  have : PyData.eqvAll (p.rs.map .str) (q.rs.map .str) = false := by
    cases c : PyData.eqvAll (p.rs.map PyData.str) (q.rs.map .str) with
    | false => rfl
    | true =>
      have := eqvAll_len c
      rw [List.length_map, List.length_map] at this
      exact absurd this h
  unfold eqP
  rw [show PyData.eqv (.tuple (p.rs.map .str)) (.tuple (q.rs.map .str)) = PyData.eqvAll (p.rs.map .str) (q.rs.map .str) from rfl, this]
  rfl
theorem eqP_zz {p q : Parts} {k : Nat} (hk : k < 3) (hp : p.rs = allR.take (k + 1)) (hq : q.rs = ([("zz" : Str)] : List Str)) : eqP p q = false ∧ eqP q p = false := by
  by_cases c : k = 0
  · subst c
    unfold eqP
    rw [hp, hq]
    exact ⟨rfl, rfl⟩
  · have l1 : p.rs.length = k + 1 := by rw [hp, List.length_take]; show min (k + 1) 3 = k + 1; omega
    have l2 : q.rs.length = 1 := by rw [hq]; rfl
    exact ⟨eqP_len (by omega), eqP_len (by omega)⟩
theorem zz_ok : NameOk "zz" ∧ ("zz" : Str) ∉ allR ∧ NameOk "a" ∧ NameOk "b" := by decide +kernel
theorem fits_more {q : Parts} {k : Nat} (ft : Fits q) (hk : k < 3) (hr : q.rs = allR.take (k + 1)) : Fits ⟨q.rs ++ [("zz" : Str)], q.os, q.fs⟩ := by
  have l1 : q.rs.length = k + 1 := by rw [hr, List.length_take]; show min (k + 1) 3 = k + 1; omega
  have nz : ("zz" : Str) ∉ q.rs := fun h => zz_ok.2.1 (by rw [hr] at h; exact List.mem_of_mem_take h)
  refine { r0 := ?_, r1 := ?_, rn := fun r h => ?_, rd := ?_, o0 := ft.o0, o1 := ft.o1, oo := fun o h => ?_, od := ft.od, f0 := ft.f0, f1 := ft.f1, fd := ft.fd, ff := fun f h => ?_ }
  · show 1 ≤ (q.rs ++ _).length
    rw [List.length_append]; omega
  · show (q.rs ++ [_]).length ≤ 5
    rw [List.length_append]; show q.rs.length + 1 ≤ 5; omega
  · rcases List.mem_append.mp h with h | h
    · exact ft.rn r h
    · rw [List.mem_singleton.mp h]; exact zz_ok.1
  · refine List.nodup_append.mpr ⟨ft.rd, List.nodup_cons.mpr ⟨List.not_mem_nil, List.nodup_nil⟩, fun x hx y hy z => ?_⟩
    rw [List.mem_singleton] at hy
    exact nz (by rw [← hy, ← z]; exact hx)
  · obtain ⟨a, b, c, d⟩ := ft.oo o h
    exact ⟨a, b, fun r hr => List.mem_append_left _ (c r hr), d⟩
  · obtain ⟨a, b, c, d⟩ := ft.ff f h
    exact ⟨a, b, Bdy.ok_rs (fun x hx => List.mem_append_left _ hx) c, d⟩
def qZ : Parts := ⟨["zz"], [("a", [])], [("b", "a", .nil)]⟩
theorem fits_zz : Fits qZ := by
  refine { r0 := by decide, r1 := by decide, rn := fun r h => ?_, rd := by decide, o0 := by decide, o1 := by decide, oo := fun o h => ?_, od := by decide, f0 := by decide, f1 := by decide, fd := by decide, ff := fun f h => ?_ }
  · rw [List.mem_singleton.mp h]; exact zz_ok.1
  · rw [List.mem_singleton.mp h]
    exact ⟨zz_ok.2.2.1, List.nodup_nil, fun r h => (by cases h), Nat.zero_le _⟩
  · rw [List.mem_singleton.mp h]
    exact ⟨zz_ok.2.2.2, List.mem_singleton_self _, by rw [Bdy.ok]; trivial, Nat.zero_le _, by rw [Bdy.wide]; trivial⟩
/-- what the head tells of comparisons -/
structure LOdd (K : PySem.W.Frag) (C L : Addr) : Prop where
  kD : ∀ d : PyData, PySem.W.kitOne K (.type (tyN d)) (.ref L) = some false
  kP : PySem.W.kitOne K (.ref C) (.ref L) = some false
  kL : PySem.W.kitOne K (.ref L) (.ref C) = some false
section
variable {K : PySem.W.Frag} {C L l0 pa0 : Addr} {W H : Hp} {q : Parts} {log : List (PyData × Parts)} {v : V} {Q : VK} {k : Bool}
/-- lives[0] == thing, thing == lives[0], lives[0] != thing -/
def rOdd (K : PySem.W.Frag) (C L : Addr) : R2 := fun x y H Q => EqAny.rEqA K L (sp_leq K C L) E0 x y H Q ∨ EqTwo.rEqJ L C (sp_leq K C L) E0 x y H Q ∨ EqIns.rEqI L (sp_leq K C L) E0 x y H Q
def rOddR (K : PySem.W.Frag) (C L : Addr) : R2 := fun x y H Q => RevAny.rRev K L (sp_leq K C L) E0 x y H Q ∨ EqTwo.rEqJ C L (sp_peq K C) E0 x y H Q ∨ EqIns.rEqI L (sp_leq K C L) E0 x y H Q
def rOddN (K : PySem.W.Frag) (C L : Addr) : R2 := fun x y H Q => NeAny.rNeA K L (sp_leq K C L) E0 x y H Q ∨ NeTwo.rNeJ L C (sp_leq K C L) E0 x y H Q ∨ NeIns.rNeI L (sp_leq K C L) E0 x y H Q
theorem op_or3 {X : Cx} {o : Value → Value → Sem Value} {r1 r2 r3 : R2} (h1 : OpR X o r1) (h2 : OpR X o r2) (h3 : OpR X o r3) : OpR X o (fun x y H Q => r1 x y H Q ∨ r2 x y H Q ∨ r3 x y H Q) := fun pins s σ H x y v u Q I rx ry h => by
  rcases h with h | h | h
  · exact h1 pins s σ H x y v u Q I rx ry h
  · exact h2 pins s σ H x y v u Q I rx ry h
  · exact h3 pins s σ H x y v u Q I rx ry h
theorem tyIns {H : Hp} {a D dx : Addr} {fs : List (Str × V)} (h : H a = some (.ins D dx fs)) (c : Cls K D) (i : PIsi K D) : TyX K H (.ref a) (.ref D) := .base (.ins h c i.ha i.hn i.htk i.hm)
variable (hC : PCls K C) (hL : LCls K L) (iC : PIsi K C) (iL : PIsi K L) (od : LOdd K C L) (sW : Same W H) (lv : LvAt K C L W H l0 pa0 q log) (h : Odd K C L W H q v)
include hC hL iC iL od sW lv h
theorem odd_eq (hQ : ∀ H', Same H H' → Q (.bl false) H') : rOdd K C L (.ref l0) v H Q := by
  obtain ⟨dx, fs, i0, _⟩ := lv.ins
  rcases h with ⟨d, hd⟩ | ⟨p, q', rfl, hp⟩ | ⟨l, pa, q', log', rfl, lv2, e1, e2⟩
  · exact .inl ⟨l0, dx, fs, d, rfl, i0, Dq.same sW _ _ hd, .inr ⟨l0, v, _, rfl, ty_of (Dq.same sW _ _ hd), od.kD d, _, rfl, hQ H (Same.refl H)⟩⟩
  · obtain ⟨_, _, ip⟩ := hp.ins
    exact .inr (.inl ⟨l0, p, _, _, _, _, rfl, rfl, i0, sW _ _ ip, .inr ⟨l0, .ref p, _, rfl, tyIns (sW _ _ ip) hC.c iC, od.kP, _, rfl, hQ H (Same.refl H)⟩⟩)
  · obtain ⟨_, _, i2, _⟩ := lv2.ins
    refine .inr (.inr ⟨l0, l, _, _, _, _, rfl, rfl, i0, i2, .inl ⟨l0, pa0, l, pa, W, q, q', log, log', rfl, hL, sW, lv, lv2, fun H' s' => ⟨_, rfl, ?_⟩⟩⟩)
    rw [e1]
    exact hQ H' s'
theorem odd_rev (hQ : ∀ H', Same H H' → Q (.bl false) H') : rOddR K C L v (.ref l0) H Q := by
  obtain ⟨dx, fs, i0, _⟩ := lv.ins
  rcases h with ⟨d, hd⟩ | ⟨p, q', rfl, hp⟩ | ⟨l, pa, q', log', rfl, lv2, e1, e2⟩
  · exact .inl ⟨l0, dx, fs, d, rfl, i0, Dq.same sW _ _ hd, .inr ⟨l0, v, _, rfl, ty_of (Dq.same sW _ _ hd), od.kD d, _, rfl, hQ H (Same.refl H)⟩⟩
  · obtain ⟨_, _, ip⟩ := hp.ins
    exact .inr (.inl ⟨p, l0, _, _, _, _, rfl, rfl, sW _ _ ip, i0, .inr ⟨p, .ref l0, _, rfl, tyIns i0 hL.c iL, od.kL, _, rfl, hQ H (Same.refl H)⟩⟩)
  · obtain ⟨_, _, i2, _⟩ := lv2.ins
    refine .inr (.inr ⟨l, l0, _, _, _, _, rfl, rfl, i2, i0, .inl ⟨l, pa, l0, pa0, W, q', q, log', log, rfl, hL, sW, lv2, lv, fun H' s' => ⟨_, rfl, ?_⟩⟩⟩)
    rw [e2]
    exact hQ H' s'
theorem odd_ne (hQ : ∀ H', Same H H' → Q (.bl true) H') : rOddN K C L (.ref l0) v H Q := by
  obtain ⟨dx, fs, i0, _⟩ := lv.ins
  rcases h with ⟨d, hd⟩ | ⟨p, q', rfl, hp⟩ | ⟨l, pa, q', log', rfl, lv2, e1, e2⟩
  · exact .inl ⟨l0, dx, fs, d, rfl, i0, Dq.same sW _ _ hd, .inr ⟨l0, v, _, rfl, ty_of (Dq.same sW _ _ hd), od.kD d, _, rfl, hQ H (Same.refl H)⟩⟩
  · obtain ⟨_, _, ip⟩ := hp.ins
    exact .inr (.inl ⟨l0, p, _, _, _, _, rfl, rfl, i0, sW _ _ ip, .inr ⟨l0, .ref p, _, rfl, tyIns (sW _ _ ip) hC.c iC, od.kP, _, rfl, hQ H (Same.refl H)⟩⟩)
  · obtain ⟨_, _, i2, _⟩ := lv2.ins
    refine .inr (.inr ⟨l0, l, _, _, _, _, rfl, rfl, i0, i2, .inl ⟨l0, pa0, l, pa, W, q, q', log, log', rfl, hL, sW, lv, lv2, fun H' s' => ⟨_, rfl, ?_⟩⟩⟩)
    rw [e1]
    exact hQ H' s'
end
/-- the log is data that may be held against other data -/
theorem names_str : ∀ x, x ∈ allR ++ allO ++ allN ++ allW → PyData.strOk x = true := by decide +kernel
theorem DeedS.can {d : PyData} (h : DeedS d) : d.canLay0 = true := by
  rcases h with ⟨w, n, r, hw, hn, hr, rfl⟩ | ⟨n, b, hn, rfl, hok, hdp, hcn⟩
  · show (PyData.strOk w && (PyData.strOk n && (PyData.strOk r && true))) = true
    rw [names_str w (by rcases hw with rfl | rfl <;> decide), names_str n (List.mem_append_left _ (List.mem_append_left _ (List.mem_append_right _ hn))), names_str r (List.mem_append_left _ (List.mem_append_left _ (List.mem_append_left _ hr)))]; rfl
  · show (PyData.strOk "rewrite" && (PyData.strOk n && (PyData.canLayAll0 b.ds && true))) = true
    rw [names_str "rewrite" (by decide), names_str n (List.mem_append_left _ (List.mem_append_right _ hn)), Bdy.can (fun x hx => names_str x (List.mem_append_left _ (List.mem_append_left _ (List.mem_append_left _ hx)))) (fun x hx => names_str x (List.mem_append_left _ (List.mem_append_right _ hx))) hok]; rfl
theorem log_shaped {log : List (PyData × Parts)} (h : ∀ e, e ∈ log → DeedS e.1) : SeqAt.shaped (.list (log.map (·.1))) = true := by
  refine shaped_of (can_map fun e he => (h e he).can) ?_
  have := (log_sh h).2
  show PyData.depthAll (log.map (·.1)) + 1 ≤ 64
  omega

end Bs
set_option Elab.async false
set_option linter.all false
set_option maxRecDepth 100000
set_option maxHeartbeats 1000000
/-! the law, its base -/
namespace Bs
open PySem PySem.Spec PyProof.Rows L2 Gd Er
local macro_rules | `(tactic| walk_at "rdc") => `(tactic| (first
  | assumption | exact Or.inl ⟨by omega, by omega⟩ | exact Or.inr ⟨by omega, by omega⟩ | exact Or.inl ⟨by decide, by decide⟩ | exact Or.inr ⟨by decide, by decide⟩
  | (show (0 : Int) < _; omega) | (show (0 : Int) < _; decide) | decide | omega | exact ⟨by decide, by decide, by decide⟩ | exact ⟨by decide, by decide +kernel⟩ | decide +kernel))
local macro_rules | `(tactic| walk_at "rdh") => `(tactic| (first | assumption | exact upd_same))
local macro_rules | `(tactic| walk_at "rd1") => `(tactic| (first
  | (with_reducible refine Rd.var rfl ?_) | (with_reducible refine Rd.con ?_) | (with_reducible refine Rd.op ?_) | (with_reducible refine Rd.un ?_) | (with_reducible refine Rd.i0 ?_) | (with_reducible refine Rd.iu ?_)
  | (with_reducible refine Rd.nil ?_) | (with_reducible refine Rd.cons ?_) | (with_reducible refine Rd.cb ?_) | (with_reducible refine Rd.asg ?_) | (with_reducible refine Rd.name ?_) | (with_reducible refine Rd.sub ?_) | (with_reducible refine Rd.rev ?_) | (with_reducible refine Rd.drop ?_) | (with_reducible refine Rd.bm ?_) | (with_reducible refine Rd.par ?_) | (with_reducible refine Rd.p2 ?_) | (with_reducible refine Rd.sl ?_) | (with_reducible refine Rd.noPart ?_) | (with_reducible refine Rd.part ?_) | (with_reducible refine Rd.int_ ?_) | (with_reducible refine Rd.seq ?_)
  | (with_reducible refine Rd.ret ?_) | (with_reducible refine Rd.retN ?_) | (with_reducible refine Rd.nxt ?_) | (with_reducible refine Rd.tst ?_) | (with_reducible refine Rd.tb_ ?_) | (with_reducible refine Rd.tnot ?_)
  | (with_reducible refine Rd.tor ?_) | (with_reducible refine Rd.tand ?_) | (with_reducible refine Rd.ifs ?_) | (with_reducible refine Rd.ife ?_) | (with_reducible refine Rd.lst ?_) | (with_reducible refine Rd.tup ?_)
  | (with_reducible refine Rd.int1 ?_) | (with_reducible refine Rd.bl ?_) | (with_reducible refine Rd.call ?_)
  | (with_reducible refine Rd.mx ?_) | (with_reducible refine Rd.bits ?_) | (with_reducible refine Rd.forR ?_) | (with_reducible refine Rd.forL ?_) | (with_reducible refine Rd.lcR ?_) | (with_reducible refine Rd.lcL ?_) | (with_reducible refine Rd.lcT ?_) | (with_reducible refine Rd.chain ?_) | (with_reducible refine Rd.notv ?_) | (with_reducible refine Rd.forS ?_) | (with_reducible refine Rd.lcS ?_) | (with_reducible refine Rd.str_ ?_) | (with_reducible refine Rd.forE ?_) | (with_reducible refine Rd.lcI ?_) | (with_reducible refine Rd.tgt ?_) | (with_reducible refine Rd.gcons ?_) | (with_reducible refine Rd.gnil ?_) | (with_reducible refine Rd.fld ?_) | (with_reducible refine Rd.sfld ?_) | (with_reducible refine Rd.meth ?_) | (with_reducible refine Rd.forT ?_)
  | ((with_reducible refine' Rd.ixLT ?rh ?ra ?_); (case rh => walk_at "rdh"); (case ra => rfl))
  | ((with_reducible refine' Rd.setL ?rh ?ra ?_); (case rh => walk_at "rdh"); (case ra => rfl))
  | ((with_reducible refine Rd.ic ?rc ?_); (case rc => walk_at "rdc"))))
local macro_rules | `(tactic| walk_at "rd") => `(tactic| (repeat (walk_at "rd1")))

/-! ### the law: its parts -/
def isI2 (k : Int → Nat → Hp → Prop) (vs : List V) (H : Hp) : Prop := ∃ i j : Int, vs = [.int i, .int j] ∧ (-(2 ^ 62) ≤ i ∧ i < 2 ^ 62 ∧ -(2 ^ 62) ≤ j ∧ j < 2 ^ 62) ∧ k i (j - i).toNat H
theorem forR2 {ta : TA} {g : TG} {tb : TS} {D : Ends} {σ : L2.St} {H : Hp} (q : ta σ H fun vs H1 => isI2 (fun lo n H2 => Rd.loopR lo n g tb D σ H2) vs H1) : tFor (iRng2 ta) g tb D σ H := q
theorem sq_only {K : PySem.W.Frag} {H : Hp} {a : Addr} {xs : List V} (h : SqL K H a xs) : ∃ W, Same W H ∧ SqL K W a xs := by
  rcases h with (h | ⟨o, h⟩) | h
  · exact ⟨upd (fun _ => none) a (.lst xs), fun b o e => (by
      by_cases c : b = a
      · subst c
        rw [upd_same] at e
        cases e
        exact h
      · rw [upd_ne c] at e; cases e), .inl (.inl upd_same)⟩
  · exact ⟨upd (fun _ => none) a (.frz o (.lst xs)), fun b u e => (by
      by_cases c : b = a
      · subst c
        rw [upd_same] at e
        cases e
        exact h
      · rw [upd_ne c] at e; cases e), .inl (.inr ⟨o, upd_same⟩)⟩
  · exact ⟨fun _ => none, fun b u e => (nomatch e), .inr h⟩
theorem mkLive {K : PySem.W.Frag} {C L : Addr} {W H1 : Hp} {p : Addr} {q : Parts} {Q' : Addr → Hp → Prop} {E : XK} (sW : Same W H1) (hp : PAt K C W p q) (g : ∀ l pa H', H1 l = none → H1 pa = none → Same H1 H' → LvAt K C L W H' l pa q [] → Q' l H') :
    ∀ x dx, H1 x = none → H1 dx = none → dx ≠ x → sp_linit K C L (V.ref x :: ([V.ref p] ++ [])) (upd (upd H1 dx (.own x)) x (.ins L dx [])) (fun v H2 => v = .non ∧ Q' x H2) E := by
  intro x dx hx hdx ne
  have s2 : Same H1 (upd (upd H1 dx (.own x)) x (.ins L dx [])) := (same_upd hdx).trans (same_upd ((upd_ne (Ne.symm ne)).trans hx))
  refine ⟨x, dx, p, W, q, rfl, upd_same, sW.trans s2, hp, fun pa H3 b3 n3 e3 e4 => ⟨rfl, ?_⟩⟩
  have s3 : Same H1 H3 := fun y o e => b3 y o (ne_of_none e hx) (s2 _ _ e)
  have np : H1 pa = none := same_none s2 n3
  have xp : x ≠ pa := fun z => by rw [← z, upd_same] at n3; cases n3
  exact g x pa H3 hx np s3 ⟨dx, p, [], e3, e4, xp, same_none sW hx, same_none sW np, hp, .nil⟩
theorem drawn_base {p : Parts} {many : Nat} (d : Drawn p many) (h : many ≤ 4) : Base p where
  r := fun x hx => by
    obtain ⟨k, _, e⟩ := d.r
    rw [e] at hx
    exact List.mem_of_mem_take hx
  o := fun x hx => by
    obtain ⟨⟨k, _, e⟩, _⟩ := d.o
    rcases e with e | e
    · rw [e] at hx; exact List.mem_of_mem_take hx
    · rw [e] at hx; exact List.mem_of_mem_take (List.mem_reverse.mp hx)
  n := fun x hx => by
    rw [d.n] at hx
    exact List.mem_of_mem_take hx
theorem both2 {A : Prop} {S : Option V → Hp → Prop} (u : Option V → Hp → Prop) (rest : ∀ o H4, S o H4 → u o H4) (main : (∀ o H4, S o H4 → u o H4) → A) : A := main rest
theorem both3 {α : Type} {A : Prop} {S : α → Hp → Prop} (u : α → Hp → Prop) (rest : ∀ o H4, S o H4 → u o H4) (main : (∀ o H4, S o H4 → u o H4) → A) : A := main rest
theorem Off.more {g A1 A2 l2 pa2 st2 : Addr} {ls : List Lv} {q : Parts} {log : List (PyData × Parts)} (f : Off g A1 A2 ls) (h1 : g ≠ l2) (h2 : g ≠ pa2) (h3 : g ≠ st2) : Off g A1 A2 (ls ++ [⟨l2, pa2, st2, q, log⟩]) :=
  ⟨f.1, f.2.1, fun j e he => by
    by_cases c : j < ls.length
    · rw [List.getElem?_append_left c] at he
      exact f.2.2 j e he
    · rw [List.getElem?_append_right (by omega)] at he
      cases z : j - ls.length with
      | zero =>
        rw [z] at he
        cases he
        exact fun z => z.elim h1 fun z => z.elim h2 h3
      | succ y => rw [z] at he; cases he⟩
theorem Off.set {g A1 A2 : Addr} {ls : List Lv} {i : Nat} {e : Lv} {q : Parts} {log : List (PyData × Parts)} (f : Off g A1 A2 ls) (he : ls[i]? = some e) : Off g A1 A2 (ls.set i ⟨e.l, e.pa, e.st, q, log⟩) :=
  ⟨f.1, f.2.1, fun j f' hf => by
    rcases set_get he hf with ⟨rfl, rfl⟩ | ⟨c, hf⟩
    · exact f.2.2 _ e he
    · exact f.2.2 j f' hf⟩
theorem Odd.up {K : PySem.W.Frag} {C L : Addr} {W W' H H' : Hp} {q : Parts} {v : V} (h : Odd K C L W H q v) (gr : Grow W W' H) (s : Same H H') : Odd K C L W' H' q v := by
  rcases h with ⟨d, hd⟩ | ⟨p, q', rfl, hp⟩ | ⟨l, pa, q', log, rfl, lv, e1, e2⟩
  · exact .inl ⟨d, Dq.same gr.s _ _ hd⟩
  · exact .inr (.inl ⟨p, q', rfl, hp.same gr.s⟩)
  · exact .inr (.inr ⟨l, pa, q', log, rfl, lv.up gr s, e1, e2⟩)
/-- one of them is undone to the beginning -/
theorem All.undo {K : PySem.W.Frag} {C L : Addr} {q0 : Parts} {m i : Nat} {A1 A2 : Addr} {W H W' H' : Hp} {ls : List Lv} {e : Lv} (a : All K C L q0 i m A1 A2 W H ls) (he : ls[i]? = some e) (b : ButS (Two e.l e.pa) H H') (gr : Grow W W' H) (s : Same W' H') (al : ∀ x o, H x = some o → ∃ u, H' x = some u) : All K C L q0 (i + 1) m A1 A2 W' H' ls := by
  obtain ⟨w1, w2, o1, o2⟩ := a.ow i e he
  have no : ∀ x, Two e.l e.pa x → Own e x := fun x h => h.elim .inl fun z => .inr (.inl z)
  refine ⟨s, b _ _ (fun z => o1 (no _ z)) a.a1, b _ _ (fun z => o2 (no _ z)) a.a2, gr.n _ _ a.a1 a.w1, gr.n _ _ a.a2 a.w2, a.a12, a.n0, a.n1, fun j f hj hf => ?_, fun j f hf => ?_, a.ap, a.ow⟩
  · obtain ⟨x, y, z, w⟩ := a.e j f (by omega) hf
    have kk : ∀ c o, Own f c → H c = some o → H' c = some o := fun c o h q => b c o (fun t => by
      have := a.ap j i f e c hf he h (no _ t)
      omega) q
    exact ⟨x.keep gr (fun o q => kk _ _ (.inl rfl) q) (fun o q => kk _ _ (.inr (.inl rfl)) q), y.keep gr (fun o q => kk _ _ (.inr (.inr rfl)) q), z, w⟩
  · obtain ⟨x1, x2, x3, y1, y2, y3⟩ := a.al j f hf
    obtain ⟨u1, z1⟩ := al _ _ y1
    obtain ⟨u2, z2⟩ := al _ _ y2
    obtain ⟨u3, z3⟩ := al _ _ y3
    exact ⟨u1, u2, u3, z1, z2, z3⟩

end Bs
set_option Elab.async false
set_option linter.all false
set_option maxRecDepth 100000


set_option maxHeartbeats 4000000
/-! the law -/
namespace Bs
open PySem PySem.Spec PyProof.Rows L2 Gd Er
local macro_rules | `(tactic| walk_at "rdc") => `(tactic| (first
  | assumption | exact Or.inl ⟨by omega, by omega⟩ | exact Or.inr ⟨by omega, by omega⟩ | exact Or.inl ⟨by decide, by decide⟩ | exact Or.inr ⟨by decide, by decide⟩
  | (show (0 : Int) < _; omega) | (show (0 : Int) < _; decide) | decide | omega | exact ⟨by decide, by decide, by decide⟩ | exact ⟨by decide, by decide +kernel⟩ | decide +kernel))
local macro_rules | `(tactic| walk_at "rdh") => `(tactic| (first | assumption | exact upd_same))
local macro_rules | `(tactic| walk_at "rd1") => `(tactic| (first
  | (with_reducible refine Rd.var rfl ?_) | (with_reducible refine Rd.con ?_) | (with_reducible refine Rd.op ?_) | (with_reducible refine Rd.un ?_) | (with_reducible refine Rd.i0 ?_) | (with_reducible refine Rd.iu ?_)
  | (with_reducible refine Rd.nil ?_) | (with_reducible refine Rd.cons ?_) | (with_reducible refine Rd.cb ?_) | (with_reducible refine Rd.asg ?_) | (with_reducible refine Rd.name ?_) | (with_reducible refine Rd.sub ?_) | (with_reducible refine Rd.rev ?_) | (with_reducible refine Rd.drop ?_) | (with_reducible refine Rd.bm ?_) | (with_reducible refine Rd.par ?_) | (with_reducible refine Rd.p2 ?_) | (with_reducible refine Rd.sl ?_) | (with_reducible refine Rd.noPart ?_) | (with_reducible refine Rd.part ?_) | (with_reducible refine Rd.int_ ?_) | (with_reducible refine Rd.seq ?_)
  | (with_reducible refine Rd.ret ?_) | (with_reducible refine Rd.retN ?_) | (with_reducible refine Rd.nxt ?_) | (with_reducible refine Rd.tst ?_) | (with_reducible refine Rd.tb_ ?_) | (with_reducible refine Rd.tnot ?_)
  | (with_reducible refine Rd.tor ?_) | (with_reducible refine Rd.tand ?_) | (with_reducible refine Rd.ifs ?_) | (with_reducible refine Rd.ife ?_) | (with_reducible refine Rd.lst ?_) | (with_reducible refine Rd.tup ?_)
  | (with_reducible refine Rd.int1 ?_) | (with_reducible refine Rd.bl ?_) | (with_reducible refine Rd.call ?_)
  | (with_reducible refine Rd.mx ?_) | (with_reducible refine Rd.bits ?_) | (with_reducible refine Rd.forR ?_) | (with_reducible refine Rd.forL ?_) | (with_reducible refine Rd.lcR ?_) | (with_reducible refine Rd.lcL ?_) | (with_reducible refine Rd.lcT ?_) | (with_reducible refine Rd.chain ?_) | (with_reducible refine Rd.notv ?_) | (with_reducible refine Rd.forS ?_) | (with_reducible refine Rd.lcS ?_) | (with_reducible refine Rd.str_ ?_) | (with_reducible refine Rd.forE ?_) | (with_reducible refine Rd.lcI ?_) | (with_reducible refine Rd.tgt ?_) | (with_reducible refine Rd.gcons ?_) | (with_reducible refine Rd.gnil ?_) | (with_reducible refine Rd.fld ?_) | (with_reducible refine Rd.sfld ?_) | (with_reducible refine Rd.meth ?_) | (with_reducible refine Rd.forT ?_)
  | ((with_reducible refine' Rd.ixLT ?rh ?ra ?_); (case rh => walk_at "rdh"); (case ra => rfl))
  | ((with_reducible refine' Rd.setL ?rh ?ra ?_); (case rh => walk_at "rdh"); (case ra => rfl))
  | ((with_reducible refine Rd.ic ?rc ?_); (case rc => walk_at "rdc"))))
local macro_rules | `(tactic| walk_at "rd") => `(tactic| (repeat (walk_at "rd1")))


/-! ### the law -/
abbrev s_law : Stmt := top 44
abbrev N_law : List Str := ["script", "generator", "parts", "lives", "states", "index", "at", "turn", "other", "odds", "thing"]
theorem sc_law : FnScope N_law ["script"] (defScope s_law) := ⟨rfl, rfl, rfl, by decide +kernel, rfl, by decide +kernel, by decide +kernel⟩
def sp_law (K : PySem.W.Frag) : Sp := fun vs H Q _ => ∃ (a : Addr) (ns : List Int), vs = [.ref a] ∧ SqL K H a (ns.map V.int) ∧ ∀ H', Q (.bl true) H'
theorem cut_len (xs : List V) : (cutV xs none (some 21)).length ≤ 21 := by
  unfold cutV
  rw [List.length_take, show HT.sIx xs.length xs.length (some (21 : Int)) = min 21 xs.length from HT.sIx_nat _ _ 21]
  omega
/-- at each turn -/
structure Turn66 (K : PySem.W.Frag) (C L : Addr) (q0 : Parts) (V0 : Hp) (m : Nat) (A1 A2 : Addr) (H : Hp) : Prop where
  x : ∃ (W : Hp) (ls : List Lv), Same V0 W ∧ All K C L q0 0 m A1 A2 W H ls
section
variable {P : Program} {w : World} {K : PySem.W.Frag} {mg : Str → Option Value} {base : Heap} {C L f f_g f_r f_d f_p f_i f_s f_h f_u f_n f_c f_o f_e f_q : Addr} {fd fd_g fd_r fd_d fd_p fd_i fd_s fd_h fd_u fd_n fd_c fd_o fd_e fd_q : FuncData}
theorem ok_law (F : FnP K "law" s_law f fd) (hC : PCls K C) (hL : LCls K L) (iC : PIsi K C) (iL : PIsi K L) (od : LOdd K C L) (c_Live : Cls K L)
    (G_law_generator : FnOk P w K mg base CX0 2 f_g fd_g ["script", "index"] (sp_generator K)) (g_law_generator : mg "_law_generator" = some (.ref f_g)) (k_law_generator : PySem.W.keepIn K (.ref f_g) = true) (b_law_generator : Binds K fd_g ["script", "index"] [])
    (G_law_random : FnOk P w K mg base CX0 2 f_r fd_r ["generator", "bound"] sp_rnd) (g_law_random : mg "_law_random" = some (.ref f_r)) (k_law_random : PySem.W.keepIn K (.ref f_r) = true) (b_law_random : Binds K fd_r ["generator", "bound"] [])
    (G_law_parts : FnOk P w K mg base CX0 9 f_d fd_d ["generator", "many", "most"] (sp_parts K)) (g_law_parts : mg "_law_parts" = some (.ref f_d)) (k_law_parts : PySem.W.keepIn K (.ref f_d) = true) (b_law_parts : Binds K fd_d ["generator", "many", "most"] [])
    (G_law_program : FnOk P w K mg base CX0 18 f_p fd_p ["parts"] (sp_lprogram K C)) (g_law_program : mg "_law_program" = some (.ref f_p)) (k_law_program : PySem.W.keepIn K (.ref f_p) = true) (b_law_program : Binds K fd_p ["parts"] [])
    (M_Live : Mk K L f_i) (G_Live : FnOk P w K mg base CX0 2 f_i fd_i ["self", "program"] (sp_linit K C L)) (g_Live : mg "Live" = some (.ref L)) (b_Live : Binds K fd_i ["self", "program"] [])
    (G_law_step : FnOk P w K mg base CX0 20 f_s fd_s ["generator", "live", "state"] (sp_lstep K C L)) (g_law_step : mg "_law_step" = some (.ref f_s)) (k_law_step : PySem.W.keepIn K (.ref f_s) = true) (b_law_step : Binds K fd_s ["generator", "live", "state"] [])
    (G_law_shows : FG P w K mg base CX0 20 f_h fd_h ["lives", "states"] (sp_shows K C L)) (g_law_shows : mg "_law_shows" = some (.ref f_h)) (k_law_shows : PySem.W.keepIn K (.ref f_h) = true) (b_law_shows : Binds K fd_h ["lives", "states"] [])
    (G_law_undone : FnOk P w K mg base CX0 20 f_u fd_u ["live", "state"] (sp_undone K C L)) (g_law_undone : mg "_law_undone" = some (.ref f_u)) (k_law_undone : PySem.W.keepIn K (.ref f_u) = true) (b_law_undone : Binds K fd_u ["live", "state"] [])
    (m_Live_shown : Meth K L "shown" f_n) (G_Live_shown : FnOk P w K mg base CX0 18 f_n fd_n ["self"] (sp_shown K C L)) (b_Live_shown : Binds K fd_n ["self"] [])
    (m_Live_copy : Meth K L "copy" f_c) (G_Live_copy : FnOk P w K mg base CX0 4 f_c fd_c ["self"] (sp_lcopy K C L)) (b_Live_copy : Binds K fd_c ["self"] [])
    (m_Live_log : Meth K L "log" f_o) (G_Live_log : FnOk P w K mg base CX0 15 f_o fd_o ["self"] (sp_llog K C L)) (b_Live_log : Binds K fd_o ["self"] [])
    (G_Program_eq : FnOk P w K mg base CX0 16 f_e fd_e ["self", "other"] (sp_peq K C)) (s_peq : PySem.W.findIn K (.ref C) "__eq__" = some (some (.ref f_e))) (f_peq : PySem.W.isFn K (.ref f_e) = true) (b_Program_eq : Binds K fd_e ["self", "other"] [])
    (G_Live_eq : FnOk P w K mg base CX0 17 f_q fd_q ["self", "other"] (sp_leq K C L)) (s_leq : PySem.W.findIn K (.ref L) "__eq__" = some (some (.ref f_q))) (f_leq : PySem.W.isFn K (.ref f_q) = true) (n_leq : PySem.W.findIn K (.ref L) "__ne__" = some (some (.builtin "object.__ne__"))) (o_leq : PySem.W.mroIn K L (.type "object") = some true) (b_Live_eq : Binds K fd_q ["self", "other"] [])
    (mD : ∀ d : PyData, PySem.W.mroIn K L (.type (EqAny.tyD d)) = some false) (nf1 : PySem.W.notFirst K L (.ref C) = true) (nf2 : PySem.W.notFirst K C (.ref L) = true)
    (T : TxtL mg) : FG P w K mg base CX0 22 f fd ["script"] (sp_law K) := by
  refine FunD_okG F sc_law (fun vs H Q E h => ?_) (fun cdv A outer s H vs Q E gd hr h => ?_)
  · obtain ⟨a, ns, rfl, _⟩ := h
    rfl
  obtain ⟨a, ns, rfl, hS, hQ⟩ := h
  refine ⟨_, PSs.nox (pss_cons (ps_set (i := 1) sc_law.nd rfl (by first | exact Or.inl rfl | exact Or.inr rfl) (pe_call G_law_generator (hr.mono (by omega)) rfl g_law_generator k_law_generator b_law_generator .nil pass0 (pa_cons (pv 0) (pa_cons pe_int pa_nil))))
    (pss_cons (ps_set (i := 2) sc_law.nd rfl (by first | exact Or.inl rfl | exact Or.inr rfl) (pe_call G_law_parts (hr.mono (by omega)) rfl g_law_parts k_law_parts b_law_parts .nil pass0 (pa_cons (pv 1) (pa_cons (pe_op op_add pe_int (pe_call G_law_random (hr.mono (by omega)) rfl g_law_random k_law_random b_law_random .nil pass0 (pa_cons (pv 1) (pa_cons pe_int pa_nil)))) (pa_cons pe_int pa_nil)))))
    (pss_cons (ps_asg (pe_tup (pa_cons (pe_lst (pa_cons (pe_make M_Live G_Live (hr.mono (by omega)) (by rfl) g_Live b_Live .nil pass0 (pa_cons (pe_call G_law_program (hr.mono (by omega)) rfl g_law_program k_law_program b_law_program .nil pass0 (pa_cons (pv 2) pa_nil)) pa_nil)) pa_nil)) (pa_cons (pe_lst (pa_cons (pe_lst (pa_cons (pv 2) (pa_cons (pe_lst pa_nil) pa_nil))) pa_nil)) pa_nil))) (Rd.pg_tupK (K := K) (n := 2) rfl (by rfl) (pgs_cons (pg_name (i := 3) sc_law.nd rfl (by first | exact Or.inl rfl | exact Or.inr rfl)) (pgs_cons (pg_name (i := 4) sc_law.nd rfl (by first | exact Or.inl rfl | exact Or.inr rfl)) pgs_nil))))
    (pss_cons (ps_for PassesOwn.never rfl (pi_range2 (by rfl) T.m_range (pa_cons pe_int (pa_cons (pe_callB (Rd.c_max rfl) (by rfl) T.m_max (by decide +kernel) (pa_cons pe_int (pa_cons (pe_callB (show CallR _ (.builtin "len") (Rd.rLn K) from Rd.c_len) (by rfl) T.m_len boot_len (pa_cons (pe_slice (show L2.SlR _ (rSlL K) from sl_list) (pv 0) po_none (po_some pe_int)) pa_nil)) pa_nil))) pa_nil))) (pg_name (i := 5) sc_law.nd rfl (by first | exact Or.inl rfl | exact Or.inr rfl)) (pss_cons (ps_set (i := 1) sc_law.nd rfl (by first | exact Or.inl rfl | exact Or.inr rfl) (pe_call G_law_generator (hr.mono (by omega)) rfl g_law_generator k_law_generator b_law_generator .nil pass0 (pa_cons (pv 0) (pa_cons (pv 5) pa_nil))))
    (pss_cons (ps_if (PW.pt (pw_and (pt_cmpR op_lt (pe_callB (show CallR _ (.builtin "len") (Rd.rLn K) from Rd.c_len) (by rfl) T.m_len boot_len (pa_cons (pv 3) pa_nil)) pe_int (nomark _)) (pw_and1 (pt_cmpR op_eq (pe_call G_law_random (hr.mono (by omega)) rfl g_law_random k_law_random b_law_random .nil pass0 (pa_cons (pv 1) (pa_cons pe_int pa_nil))) pe_int (nomark _))))) (pss_cons (ps_set (i := 6) sc_law.nd rfl (by first | exact Or.inl rfl | exact Or.inr rfl) (pe_call G_law_random (hr.mono (by omega)) rfl g_law_random k_law_random b_law_random .nil pass0 (pa_cons (pv 1) (pa_cons (pe_callB (show CallR _ (.builtin "len") (Rd.rLn K) from Rd.c_len) (by rfl) T.m_len boot_len (pa_cons (pv 3) pa_nil)) pa_nil))))
    (pss_cons (ps_expr (pe_bm PySem.F.plainAttrs_list PySem.F.slot_list_append PySem.F.type_list_append mt_append (pv 3) (pa_cons (pe_meth0 (pe_ix (show IxR _ (rIxL K) from ix_list) (pv 3) (pv 6) (fun _ _ => rfl)) c_Live m_Live_copy G_Live_copy (hr.mono (by omega)) b_Live_copy .nil pass0) pa_nil)))
    (pss_one (ps_expr (pe_bm PySem.F.plainAttrs_list PySem.F.slot_list_append PySem.F.type_list_append mt_append (pv 4) (pa_cons (pe_callTy (show CallR _ (.type "list") (Rd.rListOf K) from Rd.c_listOf) (by rfl) T.m_list (by decide +kernel) (pa_cons (pe_ix (show IxR _ (rIxL K) from ix_list) (pv 4) (pv 6) (fun _ _ => rfl)) pa_nil)) pa_nil)))))) pss_nil)
    (pss_cons (ps_for PassesOwn.never rfl (pi_range1 (by rfl) T.m_range (pa_cons pe_int pa_nil)) (pg_name (i := 7) sc_law.nd rfl (by first | exact Or.inl rfl | exact Or.inr rfl)) (pss_cons (ps_set (i := 6) sc_law.nd rfl (by first | exact Or.inl rfl | exact Or.inr rfl) (pe_call G_law_random (hr.mono (by omega)) rfl g_law_random k_law_random b_law_random .nil pass0 (pa_cons (pv 1) (pa_cons (pe_callB (show CallR _ (.builtin "len") (Rd.rLn K) from Rd.c_len) (by rfl) T.m_len boot_len (pa_cons (pv 3) pa_nil)) pa_nil))))
    (pss_one (ps_expr (pe_call G_law_step (hr.mono (by omega)) rfl g_law_step k_law_step b_law_step .nil pass0 (pa_cons (pv 1) (pa_cons (pe_ix (show IxR _ (rIxL K) from ix_list) (pv 3) (pv 6) (fun _ _ => rfl)) (pa_cons (pe_ix (show IxR _ (rIxL K) from ix_list) (pv 4) (pv 6) (fun _ _ => rfl)) pa_nil))))))))
    (pss_one (ps_if (pt_not (pt_val (pe_fg gd G_law_shows (hr.mono (by omega)) rfl g_law_shows k_law_shows b_law_shows .nil pass0 (pa_cons (pv 3) (pa_cons (pv 4) pa_nil))))) (pss_one (ps_ret pe_bl)) pss_nil))))))
    (pss_cons (ps_set (i := 8) sc_law.nd rfl (by first | exact Or.inl rfl | exact Or.inr rfl) (pe_make M_Live G_Live (hr.mono (by omega)) (by rfl) g_Live b_Live .nil pass0 (pa_cons (pe_call G_law_program (hr.mono (by omega)) rfl g_law_program k_law_program b_law_program .nil pass0 (pa_cons (pe_lst (pa_cons (pe_op (show OpR _ (binaryOp .Add) (CatS.rCatS K) from CatS.op_catS) (pe_ix (show IxR _ (rIxL K) from ix_list) (pv 2) pe_int (fun _ _ => rfl)) (pe_lst (pa_cons pe_str pa_nil))) (pa_cons (pe_ix (show IxR _ (rIxL K) from ix_list) (pv 2) pe_int (fun _ _ => rfl)) (pa_cons (pe_ix (show IxR _ (rIxL K) from ix_list) (pv 2) pe_int (fun _ _ => rfl)) pa_nil)))) pa_nil)) pa_nil)))
    (pss_cons (ps_set (i := 9) sc_law.nd rfl (by first | exact Or.inl rfl | exact Or.inr rfl) (pe_lst (pa_cons pe_non (pa_cons pe_int (pa_cons (pe_lst pa_nil) (pa_cons pe_dnewK (pa_cons pe_str (pa_cons (pe_meth0 (pe_ix (show IxR _ (rIxL K) from ix_list) (pv 3) pe_int (fun _ _ => rfl)) c_Live m_Live_shown G_Live_shown (hr.mono (by omega)) b_Live_shown .nil pass0) (pa_cons (pv 8) pa_nil)))))))))
    (pss_cons (ps_set (i := 9) sc_law.nd rfl (by first | exact Or.inl rfl | exact Or.inr rfl) (pe_op op_cat (pv 9) (pe_lst (pa_cons (pe_make M_Live G_Live (hr.mono (by omega)) (by rfl) g_Live b_Live .nil pass0 (pa_cons (pe_call G_law_program (hr.mono (by omega)) rfl g_law_program k_law_program b_law_program .nil pass0 (pa_cons (pe_lst (pa_cons (pe_lst (pa_cons pe_str pa_nil)) (pa_cons (pe_lst (pa_cons (pe_tup (pa_cons pe_str (pa_cons (pe_lst pa_nil) pa_nil))) pa_nil)) (pa_cons (pe_lst (pa_cons (pe_tup (pa_cons pe_str (pa_cons pe_str (pa_cons (pe_lst pa_nil) pa_nil)))) pa_nil)) pa_nil)))) pa_nil)) pa_nil)) pa_nil))))
    (pss_cons (ps_for PassesOwn.never rfl (Rd.pi_listK (K := K) rfl (pv 9)) (pg_name (i := 10) sc_law.nd rfl (by first | exact Or.inl rfl | exact Or.inr rfl)) (pss_one (ps_if (PW.pt (pw_or (pt_cmpR (show OpR _ (compareOp .Eq) (rOdd K C L) from op_or3 (EqAny.op_eqA G_Live_eq s_leq f_leq b_Live_eq (hr.mono (by omega)) pass0) (EqTwo.op_eqJ G_Live_eq s_leq f_leq nf1 b_Live_eq (hr.mono (by omega)) pass0) (EqIns.op_eqI G_Live_eq s_leq f_leq b_Live_eq (hr.mono (by omega)) pass0)) (pe_ix (show IxR _ (rIxL K) from ix_list) (pv 3) pe_int (fun _ _ => rfl)) (pv 10) (nomark _)) (pw_or (pt_cmpR (show OpR _ (compareOp .Eq) (rOddR K C L) from op_or3 (RevAny.op_rev G_Live_eq s_leq f_leq mD b_Live_eq (hr.mono (by omega)) pass0) (EqTwo.op_eqJ G_Program_eq s_peq f_peq nf2 b_Program_eq (hr.mono (by omega)) pass0) (EqIns.op_eqI G_Live_eq s_leq f_leq b_Live_eq (hr.mono (by omega)) pass0)) (pv 10) (pe_ix (show IxR _ (rIxL K) from ix_list) (pv 3) pe_int (fun _ _ => rfl)) (nomark _)) (pw_or1 (pt_not (pt_cmpR (show OpR _ (compareOp .NotEq) (rOddN K C L) from op_or3 (NeAny.op_neA G_Live_eq s_leq f_leq n_leq o_leq b_Live_eq (hr.mono (by omega)) pass0) (NeTwo.op_neJ G_Live_eq s_leq f_leq nf1 n_leq o_leq b_Live_eq (hr.mono (by omega)) pass0) (NeIns.op_neI G_Live_eq s_leq f_leq n_leq o_leq b_Live_eq (hr.mono (by omega)) pass0)) (pe_ix (show IxR _ (rIxL K) from ix_list) (pv 3) pe_int (fun _ _ => rfl)) (pv 10) (nomark _))))))) (pss_one (ps_ret pe_bl)) pss_nil)))
    (pss_cons (ps_if (PW.pt (pw_or (pt_cmpR (show OpR _ (compareOp .NotEq) (NeIns.rNeI L (sp_leq K C L) E0) from NeIns.op_neI G_Live_eq s_leq f_leq n_leq o_leq b_Live_eq (hr.mono (by omega)) pass0) (pe_ix (show IxR _ (rIxL K) from ix_list) (pv 3) pe_int (fun _ _ => rfl)) (pe_meth0 (pe_ix (show IxR _ (rIxL K) from ix_list) (pv 3) pe_int (fun _ _ => rfl)) c_Live m_Live_copy G_Live_copy (hr.mono (by omega)) b_Live_copy .nil pass0) (nomark _)) (pw_or1 (pt_cmpR (show OpR _ (compareOp .NotEq) (rNeD K) from op_neD hr.units) (pe_meth0 (pe_meth0 (pe_ix (show IxR _ (rIxL K) from ix_list) (pv 3) pe_int (fun _ _ => rfl)) c_Live m_Live_copy G_Live_copy (hr.mono (by omega)) b_Live_copy .nil pass0) c_Live m_Live_log G_Live_log (hr.mono (by omega)) b_Live_log .nil pass0) (pe_meth0 (pe_ix (show IxR _ (rIxL K) from ix_list) (pv 3) pe_int (fun _ _ => rfl)) c_Live m_Live_log G_Live_log (hr.mono (by omega)) b_Live_log .nil pass0) (nomark _))))) (pss_one (ps_ret pe_bl)) pss_nil)
    (pss_cons (ps_if (pt_not (pt_val (pe_call G_law_undone (hr.mono (by omega)) rfl g_law_undone k_law_undone b_law_undone .nil pass0 (pa_cons (pe_make M_Live G_Live (hr.mono (by omega)) (by rfl) g_Live b_Live .nil pass0 (pa_cons (pe_call G_law_program (hr.mono (by omega)) rfl g_law_program k_law_program b_law_program .nil pass0 (pa_cons (pv 2) pa_nil)) pa_nil)) (pa_cons (pe_lst (pa_cons (pv 2) (pa_cons (pe_lst pa_nil) pa_nil))) pa_nil))))) (pss_one (ps_ret pe_bl)) pss_nil)
    (pss_one (ps_ret (pe_cmpR (show OpR _ (compareOp .Eq) (Lst0.rLst0 K) from Lst0.op_lst0 hr.units0) (pe_lc (own := [("at", 6)]) (g := gName 6) rfl sc_law.nd (pi_range1 (by rfl) T.m_range (pa_cons (pe_callB (show CallR _ (.builtin "len") (Rd.rLn K) from Rd.c_len) (by rfl) T.m_len boot_len (pa_cons (pv 3) pa_nil)) pa_nil)) (blkOk_by (N := N_law) (sc := defScope s_law) (by decide +kernel)) (fun _ _ _ _ _ => pg_name (i := 6) sc_law.nd rfl (Or.inl rfl)) (fun _ _ _ _ _ => (pts_one (pt_not (pt_val (pe_call G_law_undone (hr.mono (by omega)) rfl g_law_undone k_law_undone b_law_undone .nil pass0 (pa_cons (pe_ix (show IxR _ (rIxL K) from ix_list) (pv 3) (pv 6) (fun _ _ => rfl)) (pa_cons (pe_ix (show IxR _ (rIxL K) from ix_list) (pv 4) (pv 6) (fun _ _ => rfl)) pa_nil))))))) (fun _ _ _ _ _ => (pv 6))) (pe_lst pa_nil) (nomark _)))))))))))))), ?_⟩
  obtain ⟨W0, sW0, hS0⟩ := sq_only hS
  walk_at "rd"
  refine ⟨a, ns, 0, rfl, hS, by decide, fun g x y hg hok => ?_⟩
  have gg : GenAt (upd H g (.lst [.int x, .int y, .int (1000 * ((0 : Nat) : Int))])) g 1000000 := gen_new upd_same hok (by decide) (Nat.le_refl _)
  have sg := same_upd (o := HO.lst [.int x, .int y, .int (1000 * ((0 : Nat) : Int))]) hg
  have w0g : W0 g = none := same_none sW0 hg
  generalize upd H g (.lst [.int x, .int y, .int (1000 * ((0 : Nat) : Int))]) = H0 at *
  have sW : Same W0 H0 := sW0.trans sg
  walk_at "rd"
  refine rnd gg (by decide) (fun r H1 lt1 b1 g1 => ?_)
  walk_at "rd"
  rw [show (1 : Int) + (r : Int) = ((1 + r : Nat) : Int) by omega]
  refine ⟨g, 1 + r, 3, W0, _, rfl, b1.same sW w0g, w0g, by omega, by omega, by decide, by unfold cP; omega, g1, fun q0 T0 R O F0 W2 H2 dr b2 gr2 s2 g2 hT wT nT dR dO dF => ?_⟩
  have ft := drawn_fits dr (by omega) (by omega)
  have hB := drawn_base dr (by omega)
  have s3 : Same (upd W2 T0 (.lst [.ref R, .ref O, .ref F0])) H2 := same_put s2 hT
  have v2 := same_upd (o := HO.lst [.ref R, .ref O, .ref F0]) wT
  have dT : Dq K (upd W2 T0 (.lst [.ref R, .ref O, .ref F0])) (.ref T0) (partsD q0) := .lst (.inl (.inl upd_same)) (.cons (Dq.same v2 _ _ dR) (.cons (Dq.same v2 _ _ dO) (.cons (Dq.same v2 _ _ dF) .nil)))
  have dR3 := Dq.same v2 _ _ dR
  have dO3 := Dq.same v2 _ _ dO
  have dF3 := Dq.same v2 _ _ dF
  have hT3 : SqL K (upd W2 T0 (.lst [.ref R, .ref O, .ref F0])) T0 [.ref R, .ref O, .ref F0] := .inl (.inl upd_same)
  have hS3 : SqL K (upd W2 T0 (.lst [.ref R, .ref O, .ref F0])) a (ns.map V.int) := (gr2.s.trans v2).seq hS0
  generalize upd W2 T0 (.lst [.ref R, .ref O, .ref F0]) = V3 at *
  clear dR dO dF
  walk_at "rd"
  refine make_ ?_
  walk_at "rd"
  refine ⟨T0, R, O, F0, V3, q0, rfl, hC, s3, s3.seq hT3, dR3, dO3, dF3, ft, fun p4 W4 H4 s4 g4 sW4 hp4 n4 => ?_⟩
  walk_at "rd"
  refine mkLive sW4 hp4 fun l5 pa5 H5 nl5 np5 s5 lv5 => ?_
  walk_at "rd"
  refine mkLs fun A1 H6 n6 s6 e6 => ?_
  walk_at "rd"
  refine mkLs fun S7 H7 n7 s7 e7 => ?_
  walk_at "rd"
  refine mkLs fun st8 H8 n8 s8 e8 => ?_
  walk_at "rd"
  refine mkLs fun A2 H9 n9 s9 e9 => ?_
  walk_at "rd"
  refine mkTs fun t10 H10 n10 s10 e10 => ?_
  refine Rd.tgt (Rd.tgAt (.inl (.inl e10)) rfl ?_)
  refine Rd.gcons (Rd.name (Rd.gcons (Rd.name (Rd.gnil ?_))))
  refine toS (σ' := [some (.ref a), some (.ref g), some (.ref T0), some (.ref A1), some (.ref A2), none, none, none, none, none, none]) rfl ?_
  -- what stands
  have s510 : Same H5 H10 := (((s6.trans s7).trans s8).trans s9).trans s10
  have w7 : W4 S7 = none := same_none (sW4.trans (s5.trans s6)) n7
  have v7 := same_upd (o := HO.lst []) w7
  have gr7 : Grow W4 (upd W4 S7 (.lst [])) H5 := (Grow.refl (W := W4) (H := H5)).put (same_none s6 n7) w7
  have sW7 : Same (upd W4 S7 (.lst [])) H10 := same_put ((sW4.trans s5).trans s510) ((((s8.trans s9).trans s10)) _ _ e7)
  have dT7 : Dq K (upd W4 S7 (.lst [])) (.ref T0) (partsD q0) := Dq.same (g4.s.trans v7) _ _ dT
  have w7st : upd W4 S7 (.lst []) st8 = none := (upd_ne (fun z => by rw [z, e7] at n8; cases n8)).trans (same_none (sW4.trans ((s5.trans s6).trans s7)) n8)
  have dS7 : Dq K (upd W4 S7 (.lst [])) (.ref S7) (stepsD []) := .lst (.inl (.inl upd_same)) .nil
  have lv10 : LvAt K C L (upd W4 S7 (.lst [])) H10 l5 pa5 q0 [] := lv5.up gr7 s510
  obtain ⟨dx5, p5, xs5, i5, i6, i7, _⟩ := id lv5
  have all0 : All K C L q0 0 0 A1 A2 (upd W4 S7 (.lst [])) H10 [⟨l5, pa5, st8, q0, []⟩] := by
    have A1l : A1 ≠ l5 := (ne_of_none i5 n6).symm
    have A1p : A1 ≠ pa5 := (ne_of_none i6 n6).symm
    have A1s : A1 ≠ st8 := ne_of_none (s7 _ _ e6) n8
    have A2l : A2 ≠ l5 := (ne_of_none i5 (same_none ((s6.trans s7).trans s8) n9)).symm
    have A2p : A2 ≠ pa5 := (ne_of_none i6 (same_none ((s6.trans s7).trans s8) n9)).symm
    have A2s : A2 ≠ st8 := (ne_of_none e8 n9).symm
    have one : ∀ {j : Nat} {e : Lv}, ([⟨l5, pa5, st8, q0, []⟩] : List Lv)[j]? = some e → j = 0 ∧ e = ⟨l5, pa5, st8, q0, []⟩ := fun {j e} h => by
      cases j with
      | zero => cases h; exact ⟨rfl, rfl⟩
      | succ j => cases h
    refine ⟨sW7, ((((s7.trans s8).trans s9).trans s10)) _ _ e6, s10 _ _ e9, ?_, ?_, (ne_of_none ((s7.trans s8) _ _ e6) n9), Nat.le_refl 1, Nat.le_of_ble_eq_true rfl, fun j e _ h => ?_, fun j e h => ?_, fun j k e f b h1 h2 _ _ => ?_, fun j e h => ?_⟩
    · exact (upd_ne (ne_of_none e6 n7)).trans (same_none (sW4.trans s5) n6)
    · exact (upd_ne (ne_of_none (s8 _ _ e7) n9).symm).trans (same_none (sW4.trans (((s5.trans s6).trans s7).trans s8)) n9)
    · obtain ⟨_, rfl⟩ := one h
      exact ⟨lv10, ⟨T0, S7, (s9.trans s10) _ _ e8, w7st, dT7, dS7⟩, ⟨⟨ft, rfl, rfl, rfl⟩, fun e h => by cases h⟩, Nat.le_refl 0⟩
    · obtain ⟨_, rfl⟩ := one h
      exact ⟨_, _, _, s510 _ _ i5, s510 _ _ i6, (s9.trans s10) _ _ e8⟩
    · rw [(one h1).1, (one h2).1]
    · obtain ⟨_, rfl⟩ := one h
      exact ⟨ne_of_none ((s6.trans s7) _ _ i5) n8, ne_of_none ((s6.trans s7) _ _ i6) n8, fun z => z.elim A1l fun z => z.elim A1p A1s, fun z => z.elim A2l fun z => z.elim A2p A2s⟩
  have sV : Same V3 (upd W4 S7 (.lst [])) := g4.s.trans v7
  have start : Turn66 K C L q0 V3 0 A1 A2 H10 := ⟨_, _, sV, all0⟩
  generalize H10 = Hs at start
  clear all0 sV lv10 dS7 w7st dT7 sW7 gr7 v7 w7 s510 i5 i6 i7 e10 s10 e9 s9 e8 s8 e7 s7 e6 s6 lv5 s5 b1 b2
  obtain ⟨W1s, ls1, sv1, al1⟩ := start.x
  walk_at "rd"
  refine forR2 ?_
  walk_at "rd"
  refine Rd.slOf ((sv1.trans al1.s).seq hS3) fun pS nS => ?_
  have sS := same_upd (o := HO.lst (cutV (ns.map V.int) none (some 21))) nS
  walk_at "rd"
  refine Rd.lnL (.inl (.inl upd_same)) ?_
  have lc : (cutV (ns.map V.int) none (some 21)).length ≤ 21 := cut_len _
  generalize (cutV (ns.map V.int) none (some 21)).length = nl at lc
  walk_at "rd"
  refine ⟨1, _, rfl, ⟨by decide, by decide, by split <;> omega, by split <;> omega⟩, ?_⟩
  have hn : ((if (nl : Int) > 2 then (nl : Int) else 2) - 1).toNat ≤ 20 := by split <;> omega
  generalize ((if (nl : Int) > 2 then (nl : Int) else 2) - 1).toNat = nt at hn
  have start1 : Turn66 K C L q0 V3 0 A1 A2 (upd Hs pS (.lst (cutV (ns.map V.int) none (some 21)))) := ⟨_, _, sv1, al1.up Grow.refl sS (al1.s.trans sS)⟩
  refine Rd.byR (fun i σ H' => (∃ o1 o5 o6 o7, σ = [some (.ref a), o1, some (.ref T0), some (.ref A1), some (.ref A2), o5, o6, o7, none, none, none]) ∧ Turn66 K C L q0 V3 (2 * i) A1 A2 H') ⟨⟨_, none, none, none, rfl⟩, start1⟩ (fun i σ Hi hi h => ?_) (fun σ Hd h => ?_)
  · obtain ⟨⟨o1, o5, o6, o7, rfl⟩, ⟨W, ls, sV, al⟩⟩ := h
    rw [show (1 : Int) + (i : Int) = ((1 + i : Nat) : Int) by omega]
    refine Rd.name ?_
    refine toS (σ' := [some (.ref a), o1, some (.ref T0), some (.ref A1), some (.ref A2), some (.int ((1 + i : Nat) : Int)), o6, o7, none, none, none]) rfl ?_
    walk_at "rd"
    refine ⟨a, ns, 1 + i, rfl, (sV.trans al.s).seq hS3, by omega, fun g x y hg hok => ?_⟩
    have gg : GenAt (upd Hi g (.lst [.int x, .int y, .int (1000 * ((1 + i : Nat) : Int))])) g 1000000 := gen_new upd_same hok (by omega) (Nat.le_refl _)
    have sg := same_upd (o := HO.lst [.int x, .int y, .int (1000 * ((1 + i : Nat) : Int))]) hg
    have wg : W g = none := same_none al.s hg
    have off : Off g A1 A2 ls := al.fresh hg
    have al := al.up Grow.refl sg (al.s.trans sg)
    generalize upd Hi g (.lst [.int x, .int y, .int (1000 * ((1 + i : Nat) : Int))]) = H0' at *
    refine Rd.name ?_
    refine toS (σ' := [some (.ref a), some (.ref g), some (.ref T0), some (.ref A1), some (.ref A2), some (.int ((1 + i : Nat) : Int)), o6, o7, none, none, none]) rfl ?_
    walk_at "rd"
    refine Rd.lnL (.inl (.inl al.a1)) ?_
    rw [List.length_map]
    walk_at "rd"
    refine' both2 (S := fun _ H4 => ∃ (n : Nat) (W' : Hp) (ls' : List Lv), 900000 ≤ n ∧ GenAt H4 g n ∧ W' g = none ∧ Off g A1 A2 ls' ∧ Same V3 W' ∧ All K C L q0 0 (2 * i) A1 A2 W' H4 ls') _ ?rest ?main
    case main =>
      intro rest
      generalize o6 = o6x
      by_cases c4 : ls.length < 4
      · refine Rd.brT (decide_eq_true (by omega)) ?_
        walk_at "rd"
        refine rnd gg (by decide) (fun r1 H1 lt1 b1 g1 => ?_)
        have al1 := al.draw b1 off wg
        walk_at "rd"
        refine Rd.eq_ rfl (Rd.bl ?_)
        by_cases cr : ¬ (V.int (r1 : Int)) = V.int 0
        · refine Rd.brF (decide_eq_false cr) ?_
          exact rest o6x _ ⟨_, W, ls, by omega, g1, wg, off, sV, al1⟩
        · have cr : (V.int (r1 : Int)) = V.int 0 := Decidable.not_not.mp cr
          refine Rd.brT (decide_eq_true cr) ?_
          walk_at "rd"
          refine Rd.lnL (.inl (.inl al1.a1)) ?_
          rw [List.length_map]
          walk_at "rd"
          refine rnd g1 (by decide) (fun j H2 lt2 b2 g2 => ?_) (by have := al.n0; omega) (by omega)
          obtain ⟨e, he⟩ : ∃ e, ls[j]? = some e := ⟨_, List.getElem?_eq_getElem (by omega)⟩
          have al2 := al1.draw b2 off wg
          obtain ⟨lv2, st2, gd2, nm2⟩ := al2.e j e (Nat.zero_le _) he
          obtain ⟨dxl, fsl, hl1, _, _, hl4, _⟩ := lv2.inm
          refine Rd.name ?_
          refine toS (σ' := [some (.ref a), some (.ref g), some (.ref T0), some (.ref A1), some (.ref A2), some (.int ((1 + i : Nat) : Int)), some (.int (j : Int)), o7, none, none, none]) rfl ?_
          walk_at "rd"
          refine Rd.app al2.a1 ?_
          walk_at "rd"
          refine Rd.ixL (.inl (.inl al2.a1)) (atI_nat (by rw [List.getElem?_map, he]; rfl)) ?_
          refine Rd.methAt hl1 hl4 ?_
          walk_at "rd"
          refine ⟨e.l, e.pa, W, e.q, e.log, rfl, hL, al2.s, lv2, by omega, fun l2 pa2 H3 nl np s3 lv3 => ?_⟩
          walk_at "rd"
          refine Rd.appTo (s3 _ _ al2.a1) (by rw [List.length_map]; omega) ?_
          walk_at "rd"
          have a2' : upd H3 A1 (.lst (ls.map (fun e => V.ref e.l) ++ [.ref l2])) A2 = some (.lst (ls.map fun e => .ref e.st)) := (upd_ne (Ne.symm al2.a12)).trans (s3 _ _ al2.a2)
          refine Rd.app a2' ?_
          walk_at "rd"
          refine Rd.ixL (.inl (.inl a2')) (atI_nat (by rw [List.getElem?_map, he]; rfl)) ?_
          obtain ⟨T9, S9, x1, x2, x3, x4⟩ := st2
          obtain ⟨_, _, oA1, oA2⟩ := al2.ow j e he
          have x1' : upd H3 A1 (.lst (ls.map (fun e => V.ref e.l) ++ [.ref l2])) e.st = some (.lst [.ref T9, .ref S9]) := (upd_ne (fun z => oA1 (.inr (.inr z.symm)))).trans (s3 _ _ x1)
          walk_at "rd"
          refine ⟨e.st, _, rfl, .inl (.inl (.inl x1')), fun st3 n5 => ?_⟩
          have s5 := same_upd (o := HO.lst [.ref T9, .ref S9]) n5
          walk_at "rd"
          refine Rd.appTo (s5 _ _ a2') (by rw [List.length_map]; omega) ?_
          obtain ⟨dx3, p3, xs3, y1, y2, y3, y4, y5, _⟩ := id lv3
          have l2A1 : l2 ≠ A1 := (ne_of_none al2.a1 nl).symm
          have l2A2 : l2 ≠ A2 := (ne_of_none al2.a2 nl).symm
          have p2A1 : pa2 ≠ A1 := (ne_of_none al2.a1 np).symm
          have p2A2 : pa2 ≠ A2 := (ne_of_none al2.a2 np).symm
          have hl4 : upd H3 A1 (.lst (ls.map (fun e => V.ref e.l) ++ [.ref l2])) l2 = H3 l2 := upd_ne l2A1
          have hp4 : upd H3 A1 (.lst (ls.map (fun e => V.ref e.l) ++ [.ref l2])) pa2 = H3 pa2 := upd_ne p2A1
          have l2s : l2 ≠ st3 := fun z => by rw [← z, hl4, y1] at n5; cases n5
          have p2s : pa2 ≠ st3 := fun z => by rw [← z, hp4, y2] at n5; cases n5
          have A1s : A1 ≠ st3 := fun z => by rw [← z, upd_same] at n5; cases n5
          have A2s : A2 ≠ st3 := fun z => by rw [← z, a2'] at n5; cases n5
          have H3st : H3 st3 = none := (upd_ne (Ne.symm A1s)).symm.trans n5
          have H2st : H2 st3 = none := same_none s3 H3st
          obtain ⟨og, hog⟩ := g2.got
          have gl2 : g ≠ l2 := ne_of_none hog nl
          have gp2 : g ≠ pa2 := ne_of_none hog np
          have gst : g ≠ st3 := ne_of_none hog H2st
          have kk : ∀ b o, b ≠ A1 → b ≠ A2 → H2 b = some o → upd (upd (upd H3 A1 (.lst (ls.map (fun e => V.ref e.l) ++ [.ref l2]))) st3 (.lst [.ref T9, .ref S9])) A2 (.lst (ls.map (fun e => V.ref e.st) ++ [.ref st3])) b = some o := fun b o n1 n2 q =>
            (upd_ne n2).trans ((s5 _ _ ((upd_ne n1).trans (s3 _ _ q))))
          have sW6 : Same W (upd (upd (upd H3 A1 (.lst (ls.map (fun e => V.ref e.l) ++ [.ref l2]))) st3 (.lst [.ref T9, .ref S9])) A2 (.lst (ls.map (fun e => V.ref e.st) ++ [.ref st3]))) := fun b o q => kk b o (fun z => by rw [z, al2.w1] at q; cases q) (fun z => by rw [z, al2.w2] at q; cases q) (al2.s _ _ q)
          have al6 := al2.more he c4 nl np H2st ⟨l2s, p2s⟩ (lv3.keep Grow.refl (fun o q => (upd_ne l2A2).trans ((s5 _ _ (hl4.trans q)))) (fun o q => (upd_ne p2A2).trans ((s5 _ _ (hp4.trans q)))))
            ⟨T9, S9, (upd_ne (Ne.symm A2s)).trans upd_same, same_none al2.s H2st, x3, x4⟩ sW6 kk ((upd_ne al2.a12).trans (s5 _ _ upd_same)) upd_same
          exact rest (some (.int (j : Int))) _ ⟨_, W, _, by decide, g2.at_ fun o q => kk g o off.1 off.2.1 q, wg, off.more gl2 gp2 gst, sV, al6⟩
      · refine Rd.brF (decide_eq_false (by omega)) ?_
        exact Rd.brF rfl (rest o6x _ ⟨_, W, ls, by decide, gg, wg, off, sV, al⟩)
    case rest =>
      intro o6' H4 hS4
      walk_at "rd"
      refine Rd.i1 (by decide) (by decide) ?_
      refine Rd.byR (n := 2) (fun t σ H' => (∃ o6 o7, σ = [some (.ref a), some (.ref g), some (.ref T0), some (.ref A1), some (.ref A2), some (.int ((1 + i : Nat) : Int)), o6, o7, none, none, none]) ∧ ∃ (n : Nat) (W' : Hp) (ls' : List Lv), 900000 - 200 * t ≤ n ∧ GenAt H' g n ∧ W' g = none ∧ Off g A1 A2 ls' ∧ Same V3 W' ∧ All K C L q0 0 (2 * i + t) A1 A2 W' H' ls') ⟨⟨_, _, rfl⟩, hS4⟩ (fun t σ H5 ht h => ?_) (fun σ H5 h => ?_)
      · obtain ⟨⟨u6, u7, rfl⟩, ⟨n, W', ls', hn4, g4', wg', off', sV', al'⟩⟩ := h
        refine Rd.name ?_
        refine toS (σ' := [some (.ref a), some (.ref g), some (.ref T0), some (.ref A1), some (.ref A2), some (.int ((1 + i : Nat) : Int)), u6, some (.int ((0 : Int) + (t : Int))), none, none, none]) rfl ?_
        walk_at "rd"
        refine Rd.lnL (.inl (.inl al'.a1)) ?_
        rw [List.length_map]
        walk_at "rd"
        refine rnd g4' (by omega) (fun j H6 lt6 b6 g6 => ?_) (by have := al'.n0; omega) (by have := al'.n1; omega)
        obtain ⟨e, he⟩ : ∃ e, ls'[j]? = some e := ⟨_, List.getElem?_eq_getElem (by omega)⟩
        have al6 := al'.draw b6 off' wg'
        obtain ⟨lv6, st6, gd6, nm6⟩ := al6.e j e (Nat.zero_le _) he
        obtain ⟨ow1, ow2, _, _⟩ := al6.ow j e he
        have og := off'.2.2 j e he
        refine Rd.name ?_
        refine toS (σ' := [some (.ref a), some (.ref g), some (.ref T0), some (.ref A1), some (.ref A2), some (.int ((1 + i : Nat) : Int)), some (.int (j : Int)), some (.int ((0 : Int) + (t : Int))), none, none, none]) rfl ?_
        walk_at "rd"
        refine Rd.ixL (.inl (.inl al6.a1)) (atI_nat (by rw [List.getElem?_map, he]; rfl)) ?_
        walk_at "rd"
        refine Rd.ixL (.inl (.inl al6.a2)) (atI_nat (by rw [List.getElem?_map, he]; rfl)) ?_
        walk_at "rd"
        refine ⟨g, e.l, e.pa, e.st, n - 1, W', q0, e.q, e.log, rfl, hC, hL, al6.s, wg', g6, by unfold cL; omega, lv6, st6, ⟨fun z => og (.inl z), fun z => og (.inr (.inl z)), fun z => og (.inr (.inr z)), ow1, ow2⟩, hB, gd6, by omega, fun W7 H7 q7 log7 b7 gr7 s7 g7 lv7 st7 gd7 n7 => ?_⟩
        obtain ⟨ob, hob⟩ := g6.got
        walk_at "rd"
        exact ⟨⟨_, _, rfl⟩, n - 1 - cL, W7, _, by unfold cL; omega, g7, gr7.n g _ hob wg', off'.set he, sV'.trans gr7.s, al6.step he off' b7 gr7 s7 lv7 st7 gd7 (by omega)⟩
      · obtain ⟨⟨u6, u7, rfl⟩, ⟨n, W', ls', hn4, g4', wg', off', sV', al'⟩⟩ := h
        walk_at "rd"
        refine ⟨A1, A2, W', q0, ls', rfl, hC, hL, al'.s, al'.a1, al'.a2, al'.n1, fun e he => ?_, fun H6 s6 => ?_⟩
        · obtain ⟨j, hj⟩ := List.mem_iff_getElem?.mp he
          obtain ⟨x1, x2, x3, x4⟩ := al'.e j e (Nat.zero_le _) hj
          exact ⟨x1, x2, x3, by omega⟩
        · refine Rd.bl (Rd.brF rfl ?_)
          walk_at "rd"
          refine ⟨⟨_, _, _, _, rfl⟩, ⟨W', ls', sV', ?_⟩⟩
          rw [show 2 * (i + 1) = 2 * i + 2 by omega]
          exact al'.up Grow.refl s6 (al'.s.trans s6)
  · obtain ⟨⟨o1, o5, o6, o7, rfl⟩, ⟨W, ls, sV, al⟩⟩ := h
    have hm : 2 * nt ≤ 40 := by omega
    generalize 2 * nt = m at al hm
    refine toS (σ' := [some (.ref a), o1, some (.ref T0), some (.ref A1), some (.ref A2), o5, o6, o7, none, none, none]) rfl ?_
    obtain ⟨e0, he0⟩ : ∃ e, ls[0]? = some e := ⟨_, List.getElem?_eq_getElem (by have := al.n0; omega)⟩
    have ixA : atI (ls.map fun e => V.ref e.l) 0 = some (.ref e0.l) := show atI _ ((0 : Nat) : Int) = _ from atI_nat (by rw [List.getElem?_map, he0]; rfl)
    obtain ⟨rk, hrk, hrs⟩ := dr.r
    obtain ⟨_, eR, hRs⟩ := rig_inv (Dq.same sV _ _ dR3)
    cases eR
    have hTW : SqL K W T0 [.ref R, .ref O, .ref F0] := sV.seq hT3
    -- another one: one right more
    walk_at "rd"
    refine make_ ?_
    walk_at "rd"
    refine Rd.ixL (al.s.seq hTW) at0 ?_
    walk_at "rd"
    refine mkLs fun z1 G1 n1 s1 e1 => ?_
    refine CatS.at_ ((al.s.trans s1).seq hRs) (.inl (.inl e1)) (fun r2 n2 => ?_) (by rw [List.length_map]; have := ft.r1; show q0.rs.length + 1 ≤ 1000; omega)
    have er2 : q0.rs.map V.str ++ [V.str "zz"] = (q0.rs ++ [("zz" : Str)]).map V.str := by rw [List.map_append]; rfl
    rw [er2]
    have s2 := same_upd (o := HO.lst ((q0.rs ++ [("zz" : Str)]).map V.str)) n2
    have s02 := s1.trans s2
    obtain ⟨u1, u2, u3⟩ := newW (Grow.refl (W := W) (H := Hd)) s1 (al.s.trans s1) n2 s2 upd_same
    walk_at "rd"
    refine Rd.ixL (s02.seq (al.s.seq hTW)) at1 ?_
    walk_at "rd"
    refine Rd.ixL (s02.seq (al.s.seq hTW)) (show atI _ ((2 : Nat) : Int) = _ from atI_nat rfl) ?_
    walk_at "rd"
    refine mkLs fun T3 G3 n3 s3 e3 => ?_
    have s03 := s02.trans s3
    have ft1 := fits_more ft hrk hrs
    walk_at "rd"
    refine ⟨T3, r2, O, F0, _, ⟨q0.rs ++ [("zz" : Str)], q0.os, q0.fs⟩, rfl, hC, u2.trans s3, .inl (.inl e3), .lst (.inl (.inl upd_same)) (dqAll_strs _), Dq.same (sV.trans u3) _ _ dO3, Dq.same (sV.trans u3) _ _ dF3, ft1, fun p4 W4' H4' s4' g4' sW4' hp4' n4' => ?_⟩
    walk_at "rd"
    refine mkLive sW4' hp4' fun l5' pa5' H5' nl5 np5 s5' lv5' => ?_
    have s05 := (s03.trans s4').trans s5'
    have gr5 : Grow W W4' Hd := u1.trans g4' (Same.alive s03)
    have sW5 : Same W4' H5' := sW4'.trans s5'
    refine Rd.name ?_
    refine toS (σ' := [some (.ref a), o1, some (.ref T0), some (.ref A1), some (.ref A2), o5, o6, o7, some (.ref l5'), none, none]) rfl ?_
    have al5 := al.up gr5 s05 sW5
    have sV5 : Same V3 W4' := sV.trans gr5.s
    clear s05 s5' s4' s03 s02 s2 s1 s3 gr5 u1 u2 u3 sW4' hp4' n4' g4' e3 n3 e1 n1 n2 nl5 np5
    -- the odd ones
    walk_at "rd"
    refine mkLs fun La G6 n6 s6 e6 => ?_
    obtain ⟨u1, u2, u3⟩ := newW (Grow.refl (W := W4') (H := H5')) (Same.refl H5') sW5 n6 s6 e6
    walk_at "rd"
    refine dnew fun Da G7 n7 s7 e7 => ?_
    obtain ⟨v1, v2, v3⟩ := newW u1 s6 u2 n7 s7 e7
    have al7 := al5.up v1 (s6.trans s7) v2
    have lv7' := lv5'.up v1 (s6.trans s7)
    obtain ⟨lv7, st7, gd7, nm7⟩ := al7.e 0 e0 (Nat.le_refl 0) he0
    obtain ⟨dxl, fsl, hl1, hl2, hl3, hl4, _⟩ := lv7.inm
    have dLa : Dq K (upd (upd W4' La (.lst [])) Da (.dK [])) (.ref La) (.list []) := .lst (.inl (.inl (v3 _ _ upd_same))) .nil
    have dDa : Dq K (upd (upd W4' La (.lst [])) Da (.dK [])) (.ref Da) (.dict []) := .dct upd_same .nil
    have sV7 : Same V3 (upd (upd W4' La (.lst [])) Da (.dK [])) := sV5.trans (u3.trans v3)
    generalize upd (upd W4' La (.lst [])) Da (.dK []) = W7 at *
    walk_at "rd"
    refine Rd.ixL (.inl (.inl al7.a1)) ixA ?_
    refine Rd.methAt hl1 hl2 ?_
    walk_at "rd"
    refine ⟨e0.l, e0.pa, W7, e0.q, e0.log, rfl, hC, hL, v2, lv7, fun p8 W8 H8 s8 g8 sW8 hp8 n8 => ?_⟩
    walk_at "rd"
    refine mkLs fun B9 H9 n9 s9 e9 => ?_
    have al8 := al7.up g8 (s8.trans s9) (sW8.trans s9)
    have lv8' := lv7'.up g8 (s8.trans s9)
    have sV8 := sV7.trans g8.s
    have sW9 := sW8.trans s9
    have odd9 : ∀ x, x ∈ [V.non, V.int 0, .ref La, .ref Da, .str "live", .ref p8, .ref l5'] → Odd K C L W8 H9 e0.q x := by
      have er : e0.q.rs = q0.rs := gd7.h.r
      have lr : q0.rs.length ≠ (q0.rs ++ [("zz" : Str)]).length := by rw [List.length_append]; show q0.rs.length ≠ q0.rs.length + 1; omega
      intro x hx
      simp only [List.mem_cons, List.not_mem_nil, or_false] at hx
      rcases hx with rfl | rfl | rfl | rfl | rfl | rfl | rfl
      · exact .inl ⟨_, .non⟩
      · exact .inl ⟨_, .int 0⟩
      · exact .inl ⟨_, Dq.same g8.s _ _ dLa⟩
      · exact .inl ⟨_, Dq.same g8.s _ _ dDa⟩
      · exact .inl ⟨_, .str _⟩
      · exact .inr (.inl ⟨p8, _, rfl, hp8⟩)
      · exact .inr (.inr ⟨l5', pa5', _, [], rfl, lv8', eqP_len (by rw [er]; exact lr), eqP_len (by rw [er]; exact lr.symm)⟩)
    refine Rd.name ?_
    refine toS (σ' := [some (.ref a), o1, some (.ref T0), some (.ref A1), some (.ref A2), o5, o6, o7, some (.ref l5'), some (.ref B9), none]) rfl ?_
    clear lv8' lv7' dLa dDa lv7 st7 hl1 s8 s7 s6 v1 v2 v3 u1 u2 u3 e6 e7 n6 n7 n8 sW8 hp8 g8
    walk_at "rd"
    refine make_ ?_
    walk_at "rd"
    refine mkLs fun z1 J1 n1 s1 e1 => ?_
    obtain ⟨x1, y1, w1⟩ := newW (Grow.refl (W := W8) (H := H9)) (Same.refl H9) sW9 n1 s1 e1
    walk_at "rd"
    refine mkLs fun z2 J2 n2 s2 e2 => ?_
    obtain ⟨x2, y2, w2⟩ := newW x1 s1 y1 n2 s2 e2
    have t2 := s1.trans s2
    walk_at "rd"
    refine mkTs fun z3 J3 n3 s3 e3 => ?_
    obtain ⟨x3, y3, w3⟩ := newW x2 t2 y2 n3 s3 e3
    have t3 := t2.trans s3
    walk_at "rd"
    refine mkLs fun z4 J4 n4 s4 e4 => ?_
    obtain ⟨x4, y4, w4⟩ := newW x3 t3 y3 n4 s4 e4
    have t4 := t3.trans s4
    walk_at "rd"
    refine mkLs fun z5 J5 n5 s5 e5 => ?_
    obtain ⟨x5, y5, w5⟩ := newW x4 t4 y4 n5 s5 e5
    have t5 := t4.trans s5
    walk_at "rd"
    refine mkTs fun z6 J6 n6 s6 e6 => ?_
    obtain ⟨x6, y6, w6⟩ := newW x5 t5 y5 n6 s6 e6
    have t6 := t5.trans s6
    walk_at "rd"
    refine mkLs fun z7 J7 n7 s7 e7 => ?_
    obtain ⟨x7, y7, w7⟩ := newW x6 t6 y6 n7 s7 e7
    have t7 := t6.trans s7
    walk_at "rd"
    refine mkLs fun z8 J8 n8 s8 e8 => ?_
    have t8 := t7.trans s8
    have dz1 : Dq K _ (.ref z1) (rigD qZ.rs) := .lst (.inl (.inl (w7 _ _ (w6 _ _ (w5 _ _ (w4 _ _ (w3 _ _ (w2 _ _ upd_same)))))))) (.cons (.str _) .nil)
    have dz4 : Dq K _ (.ref z4) (ownD qZ.os) := .lst (.inl (.inl (w7 _ _ (w6 _ _ (w5 _ _ upd_same))))) (.cons (.tup (.inl (.inl (w7 _ _ (w6 _ _ (w5 _ _ (w4 _ _ upd_same)))))) (.cons (.str _) (.cons (.lst (.inl (.inl (w7 _ _ (w6 _ _ (w5 _ _ (w4 _ _ (w3 _ _ upd_same))))))) .nil) .nil))) .nil)
    have dz7 : Dq K _ (.ref z7) (funD qZ.fs) := .lst (.inl (.inl upd_same)) (.cons (.tup (.inl (.inl (w7 _ _ upd_same))) (.cons (.str _) (.cons (.str _) (.cons (.lst (.inl (.inl (w7 _ _ (w6 _ _ upd_same)))) .nil) .nil)))) .nil)
    walk_at "rd"
    refine ⟨z8, z1, z4, z7, _, qZ, rfl, hC, y7.trans s8, .inl (.inl e8), dz1, dz4, dz7, fits_zz, fun pZ WZ HZ sZ gZ sWZ hpZ nZ => ?_⟩
    walk_at "rd"
    refine mkLive sWZ hpZ fun lZ paZ HY nlZ npZ sY lvZ => ?_
    have tY := (t8.trans sZ).trans sY
    have gY : Grow W8 WZ H9 := x7.trans gZ (Same.alive t8)
    walk_at "rd"
    refine mkLs fun bX HX nX sX eX => ?_
    have tX := tY.trans sX
    refine catL (tX _ _ e9) eX fun B10 HV nV sV10 eV => ?_
    have tV := tX.trans sV10
    have sW10 : Same WZ HV := (sWZ.trans sY).trans (sX.trans sV10)
    have al10 := al8.up gY tV sW10
    have sVZ := sV8.trans gY.s
    have odd10 : ∀ x, x ∈ [V.non, V.int 0, .ref La, .ref Da, .str "live", .ref p8, .ref l5'] ++ [.ref lZ] → Odd K C L WZ HV e0.q x := fun x hx => by
      rcases List.mem_append.mp hx with hx | hx
      · exact (odd9 x hx).up gY tV
      · rw [List.mem_singleton.mp hx]
        obtain ⟨zz1, zz2⟩ := eqP_zz (p := e0.q) (q := qZ) hrk (gd7.h.r.trans hrs) rfl
        exact .inr (.inr ⟨lZ, paZ, qZ, [], rfl, lvZ.up Grow.refl (sX.trans sV10), zz1, zz2⟩)
    obtain ⟨lv10, st10, gd10, nm10⟩ := al10.e 0 e0 (Nat.le_refl 0) he0
    generalize [V.non, V.int 0, .ref La, .ref Da, .str "live", .ref p8, .ref l5'] ++ [.ref lZ] = xs10 at eV odd10
    refine Rd.name ?_
    refine toS (σ' := [some (.ref a), o1, some (.ref T0), some (.ref A1), some (.ref A2), o5, o6, o7, some (.ref l5'), some (.ref B10), none]) rfl ?_
    clear odd9 tY tX tV gY sX sV10 eX nX nV t8 t7 t6 t5 t4 t3 t2 x1 x2 x3 x4 x5 x6 x7 y1 y2 y3 y4 y5 y6 y7 w1 w2 w3 w4 w5 w6 w7 dz1 dz4 dz7 s8 s7 s6 s5 s4 s3 s2 s1 sY sZ gZ lvZ hpZ sWZ e9 e1 e2 e3 e4 e5 e6 e7 e8 n1 n2 n3 n4 n5 n6 n7 n8 nlZ npZ nZ lv5'
    walk_at "rd"
    refine Rd.l1 (.inl (.inl eV)) ?_
    refine Rd.byL (xs := xs10) (fun i σ H' => (∃ o10, σ = [some (.ref a), o1, some (.ref T0), some (.ref A1), some (.ref A2), o5, o6, o7, some (.ref l5'), some (.ref B10), o10]) ∧ Same HV H') ⟨⟨none, rfl⟩, Same.refl HV⟩ (fun i σ H' hi h => .inl (.inl (h.2 _ _ eV))) (fun i x σ H' hi h => ?_) (fun σ HE h => ?_)
    · obtain ⟨⟨o10, rfl⟩, s11⟩ := h
      have ox := (odd10 x (List.mem_of_getElem? hi)).up Grow.refl s11
      have lx := lv10.up Grow.refl s11
      refine Rd.name ?_
      refine toS (σ' := [some (.ref a), o1, some (.ref T0), some (.ref A1), some (.ref A2), o5, o6, o7, some (.ref l5'), some (.ref B10), some x]) rfl ?_
      walk_at "rd"
      refine Rd.ixL (.inl (.inl (s11 _ _ al10.a1))) ixA ?_
      walk_at "rd"
      refine odd_eq hC hL iC iL od (sW10.trans s11) lx ox (fun K1 s12 => ?_)
      refine Rd.bl (Rd.brF rfl ?_)
      have ox := ox.up Grow.refl s12
      have lx := lx.up Grow.refl s12
      walk_at "rd"
      refine Rd.ixL (.inl (.inl ((s11.trans s12) _ _ al10.a1))) ixA ?_
      refine odd_rev hC hL iC iL od ((sW10.trans s11).trans s12) lx ox (fun K2 s13 => ?_)
      refine Rd.bl (Rd.brF rfl ?_)
      have ox := ox.up Grow.refl s13
      have lx := lx.up Grow.refl s13
      walk_at "rd"
      refine Rd.ixL (.inl (.inl (((s11.trans s12).trans s13) _ _ al10.a1))) ixA ?_
      walk_at "rd"
      refine odd_ne hC hL iC iL od (((sW10.trans s11).trans s12).trans s13) lx ox (fun K3 s14 => ?_)
      refine Rd.bl (Rd.brF rfl ?_)
      walk_at "rd"
      exact ⟨⟨_, rfl⟩, ((s11.trans s12).trans s13).trans s14⟩
    · obtain ⟨⟨o10, rfl⟩, s11⟩ := h
      have al11 := al10.up Grow.refl s11 (sW10.trans s11)
      obtain ⟨lv11, st11, gd11, nm11⟩ := al11.e 0 e0 (Nat.le_refl 0) he0
      have ft11 := gd11.h.f
      have dd : ∀ x, x ∈ e0.log → DeedS x.1 := fun x hx => (gd11.d x hx).1
      obtain ⟨dxl, fsl, hl1, hl2, hl3, hl4, _⟩ := lv11.inm
      walk_at "rd"
      refine Rd.ixL (.inl (.inl al11.a1)) ixA ?_
      walk_at "rd"
      refine Rd.ixL (.inl (.inl al11.a1)) ixA ?_
      refine Rd.methAt hl1 hl4 ?_
      walk_at "rd"
      refine ⟨e0.l, e0.pa, WZ, e0.q, e0.log, rfl, hL, al11.s, lv11, by omega, fun l2 pa2 H2 nl2 np2 s12 lv12 => ?_⟩
      obtain ⟨_, _, i2, _⟩ := lv12.ins
      refine ⟨e0.l, l2, _, _, _, _, rfl, rfl, s12 _ _ hl1, i2, .inl ⟨e0.l, e0.pa, l2, pa2, WZ, e0.q, e0.q, e0.log, e0.log, rfl, hL, al11.s.trans s12, lv11.up Grow.refl s12, lv12, fun H3 s13 => ⟨_, rfl, ?_⟩⟩⟩
      refine Rd.bl (Rd.brF (by rw [eqP_refl ft11]; rfl) ?_)
      have t13 := s12.trans s13
      walk_at "rd"
      refine Rd.ixL (.inl (.inl (t13 _ _ al11.a1))) ixA ?_
      refine Rd.methAt (t13 _ _ hl1) hl4 ?_
      walk_at "rd"
      refine ⟨e0.l, e0.pa, WZ, e0.q, e0.log, rfl, hL, al11.s.trans t13, lv11.up Grow.refl t13, by omega, fun l3 pa3 H4 nl3 np3 s14 lv14 => ?_⟩
      obtain ⟨_, _, i3, _, k3, _⟩ := lv14.inm
      have t14 := t13.trans s14
      refine Rd.methAt i3 k3 ?_
      walk_at "rd"
      refine ⟨l3, pa3, WZ, e0.q, e0.log, rfl, hL, al11.s.trans t14, lv14, fun x hx => (dd x hx).ok, by omega, fun T5 W5 H5 s15 g15 sW15 d15 n15 => ?_⟩
      have t15 := t14.trans s15
      walk_at "rd"
      refine Rd.ixL (.inl (.inl (t15 _ _ al11.a1))) ixA ?_
      refine Rd.methAt (t15 _ _ hl1) hl3 ?_
      walk_at "rd"
      refine ⟨e0.l, e0.pa, WZ, e0.q, e0.log, rfl, hL, al11.s.trans t15, lv11.up Grow.refl t15, fun x hx => (dd x hx).ok, by omega, fun T6 W6 H6 s16 g16 sW16 d16 n16 => ?_⟩
      have t16 := t15.trans s16
      have can := SeqAt.canLay_of_shaped (log_shaped dd)
      refine ⟨_, _, dp_of _ _ (Dq.same (sW15.trans s16) _ _ d15) can, dp_of _ _ (Dq.same sW16 _ _ d16) can, log_shaped dd, log_shaped dd, ?_⟩
      refine Rd.bl (Rd.brF (by rw [SeqAt.eqv_refl _ can]; rfl) ?_)
      have al16 := al11.up Grow.refl t16 (al11.s.trans t16)
      clear t15 t14 t13 s16 s15 s14 s13 s12 sW15 sW16 g15 g16 d15 d16 n15 n16 lv14 lv12
      -- a new one, undone
      walk_at "rd"
      refine make_ ?_
      walk_at "rd"
      refine ⟨T0, R, O, F0, WZ, q0, rfl, hC, al16.s, al16.s.seq (sVZ.seq hT3), Dq.same sVZ _ _ dR3, Dq.same sVZ _ _ dO3, Dq.same sVZ _ _ dF3, ft, fun p7 W7' H7 s17 g17 sW17 hp17 n17 => ?_⟩
      walk_at "rd"
      refine mkLive sW17 hp17 fun l8 pa8 H8' nl8 np8 s18 lv18 => ?_
      walk_at "rd"
      refine mkLs fun S9 H9' n19 s19 e19 => ?_
      obtain ⟨u1, u2, u3⟩ := newW (Grow.refl (W := W7') (H := H8')) (Same.refl H8') (sW17.trans s18) n19 s19 e19
      walk_at "rd"
      refine mkLs fun st9 H10' n20 s20 e20 => ?_
      have t20 := ((s17.trans s18).trans s19).trans s20
      have g20 : Grow WZ (upd W7' S9 (.lst [])) H6 := g17.trans (u1.pre s18) (Same.alive s17)
      have al20 := al16.up g20 t20 (u2.trans s20)
      have l8n : H6 l8 = none := same_none s17 nl8
      have p8n : H6 pa8 = none := same_none s17 np8
      walk_at "rd"
      refine ⟨l8, pa8, st9, _, q0, [], rfl, hC, hL, u2.trans s20, lv18.up u1 (s19.trans s20), ⟨T0, S9, e20, same_none u2 n20, Dq.same (sVZ.trans g20.s) _ _ dT, .lst (.inl (.inl upd_same)) .nil⟩, fun e h => (by cases h), Nat.zero_le _, fun W21 H21 b21 g21 sW21 al21 => ?_⟩
      have off8 := al16.fresh l8n
      have offp := al16.fresh p8n
      have al22 := al20.keep (fun x o h q => b21 x o (fun z => by
        rcases z with z | z
        · subst z
          exact h.elim (fun h => off8.1 h) fun h => h.elim (fun h => off8.2.1 h) fun ⟨j, e, he, ho⟩ => off8.2.2 j e he ho
        · subst z
          exact h.elim (fun h => offp.1 h) fun h => h.elim (fun h => offp.2.1 h) fun ⟨j, e, he, ho⟩ => offp.2.2 j e he ho) q) g21 sW21
      refine Rd.bl (Rd.brF rfl ?_)
      walk_at "rd"
      refine Rd.lnL (.inl (.inl al22.a1)) ?_
      rw [List.length_map]
      walk_at "rd"
      have n1 := al22.n1
      refine Rd.i1 (by omega) (by omega) ?_
      rw [Int.toNat_natCast]
      intro D hD
      have offD := al22.fresh hD
      refine Rd.byCR (fun i H' => H' D = some (.lst []) ∧ ∃ W', All K C L q0 i m A1 A2 W' H' ls) ⟨upd_same, W21, al22.up Grow.refl (same_upd hD) (sW21.trans (same_upd hD))⟩ (fun i H' hi h => ?_) (fun H' h => ?_)
      · obtain ⟨eD, W', al⟩ := h
        obtain ⟨e, he⟩ : ∃ e, ls[i]? = some e := ⟨_, List.getElem?_eq_getElem hi⟩
        obtain ⟨lv, st, gd', nm⟩ := al.e i e (Nat.le_refl _) he
        rw [show (0 : Int) + (i : Int) = ((i : Nat) : Int) by omega]
        refine Rd.turnIf rfl ?_
        walk_at "rd"
        refine Rd.ixL (.inl (.inl al.a1)) (atI_nat (by rw [List.getElem?_map, he]; rfl)) ?_
        walk_at "rd"
        refine Rd.ixL (.inl (.inl al.a2)) (atI_nat (by rw [List.getElem?_map, he]; rfl)) ?_
        walk_at "rd"
        refine ⟨e.l, e.pa, e.st, W', e.q, e.log, rfl, hC, hL, al.s, lv, st, fun x hx => (gd'.d x hx).2.f, by omega, fun W2 H2 b2 g2 sW2 a2 => ?_⟩
        refine Rd.bl (Rd.brF rfl ⟨b2 D _ (fun z => offD.2.2 i e he (z.elim .inl fun z => .inr (.inl z))) eD, W2, al.undo he b2 g2 sW2 a2⟩)
      · walk_at "rd"
        refine mkLs fun Z HZ' nZ' sZ' eZ' => ?_
        refine Lst0.at_ (.inl (.inl (sZ' _ _ h.1))) (.inl (.inl eZ')) ?_
        exact hQ _
end

end Bs
set_option Elab.async false
set_option linter.all false
set_option maxRecDepth 100000
set_option maxHeartbeats 0
/-! the head: facts by names, the run, the end -/
namespace Bs
open PySem PySem.Spec PyProof.Rows L2 Gd Er
abbrev Pg : Program := PySem.Challenge.pw_callersrights_k66_whole_copies_of_live_p
abbrev aC (K : PySem.W.Frag) : Addr := He.ga K "Program"
abbrev aL (K : PySem.W.Frag) : Addr := He.ga K "Live"
abbrev aN (K : PySem.W.Frag) : Addr := He.ga K "NothingToUndo"
def d_law_cell : He.DefD := ⟨("_law_cell", none), "_law_cell", "_law_cell", defArgs s_law_cell, defBody s_law_cell, defScope s_law_cell, [], []⟩
def d_law_hash : He.DefD := ⟨("_law_hash", none), "_law_hash", "_law_hash", defArgs s_law_hash, defBody s_law_hash, defScope s_law_hash, [], []⟩
def d_law_generator : He.DefD := ⟨("_law_generator", none), "_law_generator", "_law_generator", defArgs s_law_generator, defBody s_law_generator, defScope s_law_generator, [], []⟩
def d_law_random : He.DefD := ⟨("_law_random", none), "_law_random", "_law_random", defArgs s_law_random, defBody s_law_random, defScope s_law_random, [], []⟩
def d_law_rights_drawn : He.DefD := ⟨("_law_rights_drawn", none), "_law_rights_drawn", "_law_rights_drawn", defArgs s_law_rights_drawn, defBody s_law_rights_drawn, defScope s_law_rights_drawn, [], []⟩
def d_law_owners_drawn : He.DefD := ⟨("_law_owners_drawn", none), "_law_owners_drawn", "_law_owners_drawn", defArgs s_law_owners_drawn, defBody s_law_owners_drawn, defScope s_law_owners_drawn, [], []⟩
def d_law_step_drawn : He.DefD := ⟨("_law_step_drawn", none), "_law_step_drawn", "_law_step_drawn", defArgs s_law_step_drawn, defBody s_law_step_drawn, defScope s_law_step_drawn, [], []⟩
def d_law_body_drawn : He.DefD := ⟨("_law_body_drawn", none), "_law_body_drawn", "_law_body_drawn", defArgs s_law_body_drawn, defBody s_law_body_drawn, defScope s_law_body_drawn, [], []⟩
def d_law_count : He.DefD := ⟨("_law_count", none), "_law_count", "_law_count", defArgs s_law_count, defBody s_law_count, defScope s_law_count, [], []⟩
def d_law_copied : He.DefD := ⟨("_law_copied", none), "_law_copied", "_law_copied", defArgs s_law_copied, defBody s_law_copied, defScope s_law_copied, [], []⟩
def d_law_parts : He.DefD := ⟨("_law_parts", none), "_law_parts", "_law_parts", defArgs s_law_parts, defBody s_law_parts, defScope s_law_parts, [], []⟩
def d_law_program : He.DefD := ⟨("_law_program", none), "_law_program", "_law_program", defArgs s_law_program, defBody s_law_program, defScope s_law_program, [], []⟩
def d_law_step : He.DefD := ⟨("_law_step", none), "_law_step", "_law_step", defArgs s_law_step, defBody s_law_step, defScope s_law_step, [], []⟩
def d_law_shows : He.DefD := ⟨("_law_shows", none), "_law_shows", "_law_shows", defArgs s_law_shows, defBody s_law_shows, defScope s_law_shows, [], []⟩
def d_law_undone : He.DefD := ⟨("_law_undone", none), "_law_undone", "_law_undone", defArgs s_law_undone, defBody s_law_undone, defScope s_law_undone, [], []⟩
def d_law : He.DefD := ⟨("law", none), "law", "law", defArgs s_law, defBody s_law, defScope s_law, [], []⟩
def d_is_name : He.DefD := ⟨("is_name", none), "is_name", "is_name", defArgs s_is_name, defBody s_is_name, defScope s_is_name, [], []⟩
def d_check_size : He.DefD := ⟨("check_size", none), "check_size", "check_size", defArgs s_check_size, defBody s_check_size, defScope s_check_size, [], []⟩
def d_is_owner : He.DefD := ⟨("is_owner", none), "is_owner", "is_owner", defArgs s_is_owner, defBody s_is_owner, defScope s_is_owner, [], []⟩
def d_is_step : He.DefD := ⟨("is_step", none), "is_step", "is_step", defArgs s_is_step, defBody s_is_step, defScope s_is_step, [], []⟩
def d_is_body : He.DefD := ⟨("is_body", none), "is_body", "is_body", defArgs s_is_body, defBody s_is_body, defScope s_is_body, [], []⟩
def d_is_function : He.DefD := ⟨("is_function", none), "is_function", "is_function", defArgs s_is_function, defBody s_is_function, defScope s_is_function, [], []⟩
def d_copied_step : He.DefD := ⟨("copied_step", none), "copied_step", "copied_step", defArgs s_copied_step, defBody s_copied_step, defScope s_copied_step, [], []⟩
def d_copied_body : He.DefD := ⟨("copied_body", none), "copied_body", "copied_body", defArgs s_copied_body, defBody s_copied_body, defScope s_copied_body, [], []⟩
def d_first_names : He.DefD := ⟨("first_names", none), "first_names", "first_names", defArgs s_first_names, defBody s_first_names, defScope s_first_names, [], []⟩
def d_check_program : He.DefD := ⟨("check_program", none), "check_program", "check_program", defArgs s_check_program, defBody s_check_program, defScope s_check_program, [], []⟩
def d_Program_init : He.DefD := ⟨("Program", some "__init__"), "__init__", "Program.__init__", defArgs s_Program_init, defBody s_Program_init, defScope s_Program_init, [], []⟩
def d_Program_rights : He.DefD := ⟨("Program", some "rights"), "rights", "Program.rights", defArgs s_Program_rights, defBody s_Program_rights, defScope s_Program_rights, [], []⟩
def d_Program_owners : He.DefD := ⟨("Program", some "owners"), "owners", "Program.owners", defArgs s_Program_owners, defBody s_Program_owners, defScope s_Program_owners, [], []⟩
def d_Program_functions : He.DefD := ⟨("Program", some "functions"), "functions", "Program.functions", defArgs s_Program_functions, defBody s_Program_functions, defScope s_Program_functions, [], []⟩
def d_Program_eq : He.DefD := ⟨("Program", some "__eq__"), "__eq__", "Program.__eq__", defArgs s_Program_eq, defBody s_Program_eq, defScope s_Program_eq, [], []⟩
def d_Live_init : He.DefD := ⟨("Live", some "__init__"), "__init__", "Live.__init__", defArgs s_Live_init, defBody s_Live_init, defScope s_Live_init, [], []⟩
def d_Live_check_owner : He.DefD := ⟨("Live", some "check_owner"), "check_owner", "Live.check_owner", defArgs s_Live_check_owner, defBody s_Live_check_owner, defScope s_Live_check_owner, [], []⟩
def d_Live_lead : He.DefD := ⟨("Live", some "lead"), "lead", "Live.lead", defArgs s_Live_lead, defBody s_Live_lead, defScope s_Live_lead, [], []⟩
def d_Live_grant : He.DefD := ⟨("Live", some "grant"), "grant", "Live.grant", defArgs s_Live_grant, defBody s_Live_grant, defScope s_Live_grant, [], []⟩
def d_Live_revoke : He.DefD := ⟨("Live", some "revoke"), "revoke", "Live.revoke", defArgs s_Live_revoke, defBody s_Live_revoke, defScope s_Live_revoke, [], []⟩
def d_Live_rewrite : He.DefD := ⟨("Live", some "rewrite"), "rewrite", "Live.rewrite", defArgs s_Live_rewrite, defBody s_Live_rewrite, defScope s_Live_rewrite, [], []⟩
def d_Live_shown : He.DefD := ⟨("Live", some "shown"), "shown", "Live.shown", defArgs s_Live_shown, defBody s_Live_shown, defScope s_Live_shown, [], []⟩
def d_Live_back : He.DefD := ⟨("Live", some "back"), "back", "Live.back", defArgs s_Live_back, defBody s_Live_back, defScope s_Live_back, [], []⟩
def d_Live_log : He.DefD := ⟨("Live", some "log"), "log", "Live.log", defArgs s_Live_log, defBody s_Live_log, defScope s_Live_log, [], []⟩
def d_Live_copy : He.DefD := ⟨("Live", some "copy"), "copy", "Live.copy", defArgs s_Live_copy, defBody s_Live_copy, defScope s_Live_copy, [], []⟩
def d_Live_eq : He.DefD := ⟨("Live", some "__eq__"), "__eq__", "Live.__eq__", defArgs s_Live_eq, defBody s_Live_eq, defScope s_Live_eq, [], []⟩
def fn : List He.DefD := [d_law_cell, d_law_hash, d_law_generator, d_law_random, d_law_rights_drawn, d_law_owners_drawn, d_law_step_drawn, d_law_body_drawn, d_law_count, d_law_copied, d_law_parts, d_law_program, d_law_step, d_law_shows, d_law_undone, d_law, d_is_name, d_check_size, d_is_owner, d_is_step, d_is_body, d_is_function, d_copied_step, d_copied_body, d_first_names, d_check_program, d_Program_init, d_Program_rights, d_Program_owners, d_Program_functions, d_Program_eq, d_Live_init, d_Live_check_owner, d_Live_lead, d_Live_grant, d_Live_revoke, d_Live_rewrite, d_Live_shown, d_Live_back, d_Live_log, d_Live_copy, d_Live_eq]
def fa : List He.Fa := [.glo "_law_cell", .glo "_law_hash", .glo "_law_generator", .glo "_law_random", .glo "_law_rights_drawn", .glo "_law_owners_drawn", .glo "_law_step_drawn", .glo "_law_body_drawn", .glo "_law_count", .glo "_law_copied", .glo "_law_parts", .glo "_law_program", .glo "_law_step", .glo "_law_shows", .glo "_law_undone", .glo "law", .glo "is_name", .glo "check_size", .glo "is_owner", .glo "is_step", .glo "is_body", .glo "is_function", .glo "copied_step", .glo "copied_body", .glo "first_names", .glo "check_program", .glo "Program", .glo "Live", .glo "NothingToUndo", .free "len", .free "int", .free "max", .free "range", .free "sum", .free "isinstance", .free "list", .free "tuple", .free "str", .free "bool", .free "set", .free "enumerate", .free "repr", .str "LETTERS" letters, .int "MOST_LETTERS" 8, .int "MOST_RIGHTS" 5, .int "MOST_OWNERS" 5, .int "MOST_FUNCTIONS" 6, .cls "Program", .noat "Program" "listed", .noat "Program" "held", .noat "Program" "bodies", .mkr "Program", .cls "Live", .noat "Live" "now", .noat "Live" "past", .mkr "Live", .meth "Program" "rights", .meth "Program" "owners", .meth "Program" "functions", .meth "Program" "__eq__", .meth "Live" "check_owner", .meth "Live" "lead", .meth "Live" "grant", .meth "Live" "revoke", .meth "Live" "rewrite", .meth "Live" "shown", .meth "Live" "back", .meth "Live" "log", .meth "Live" "copy", .meth "Live" "__eq__", .exm "NothingToUndo" "NothingToUndo" true]
def modB (K : PySem.W.Frag) : Bool := match K.lookup sysModules with
  | some ⟨.type c, _, _, _⟩ => decide (c = "dict")
  | _ => false
def tyB (K : PySem.W.Frag) (t : String) : Bool := decide (PySem.W.kitOne K (.type t) (.ref (aL K)) = some false) && decide (PySem.W.mroIn K (aL K) (.type t) = some false)
def oddB (K : PySem.W.Frag) : Bool := (HdB.tys.all fun t => tyB K t) && (decide (PySem.W.kitOne K (.ref (aC K)) (.ref (aL K)) = some false) && (decide (PySem.W.kitOne K (.ref (aL K)) (.ref (aC K)) = some false) && (PySem.W.notFirst K (aL K) (.ref (aC K)) && PySem.W.notFirst K (aC K) (.ref (aL K)))))
def xB (K : PySem.W.Frag) : Bool := modB K && (HdB.isiB K (aC K) && (HdB.isiB K (aL K) && (oddB K && (HdB.oexB K (aN K) && He.eqO (PySem.W.findIn K (.ref (aN K)) "__init__") (some (some (.builtin "ValueError.__init__")))))))
abbrev Ob : Type := He.AlD × Bool
def obs1 (K : PySem.W.Frag) : Ob := (He.obsD fa fn K, xB K)
def val1 : Ob := (He.valD fn, true)
def fr1 (g : Addr → Option Obj) : PySem.W.Frag := He.frG g (sysModules :: cStatics :: He.asD g 6)
def hk : PySem.W.Hook where
  α := Ob
  obs := fun s => obs1 (fr1 s.heap.get?)
  val := fun _ => val1
  says := fun _ h => ∃ K : PySem.W.Frag, K.In h ∧ obs1 K = val1
  of := fun _ _ e => ⟨_, He.frG_in, e⟩
  keeps := fun _ _ _ ⟨K, hK, c⟩ k => ⟨K, PySem.W.Frag.In.keeps hK k, c⟩
abbrev R : PySem.W.OpenRow := PySem.W.OpenLaw.row PySem.Challenge.rw_callersrights_k66_whole_copies_of_live_p
def ob (s : PySem.W.SharedT) : Ob := obs1 (fr1 (HandSHeadRun.getT s))
theorem ob_eq (s : PySem.W.SharedT) : ob s = hk.obs s.abs := by
  have e : HandSHeadRun.getT s = s.abs.heap.get? := funext (HandSHeadRun.getT_eq s)
  show obs1 (fr1 (HandSHeadRun.getT s)) = obs1 (fr1 s.abs.heap.get?)
  rw [e]
abbrev loose : List Str := [("_wall" : Str), ("RightsError" : Str), ("InvalidList" : Str), ("InvalidItem" : Str), ("InvalidProgram" : Str), ("TakenName" : Str), ("UnknownName" : Str), ("NothingToUndo" : Str), ("LETTERS" : Str), ("MOST_LETTERS" : Str), ("MOST_RIGHTS" : Str), ("MOST_OWNERS" : Str), ("MOST_FUNCTIONS" : Str), ("is_name" : Str), ("check_size" : Str), ("is_owner" : Str), ("is_step" : Str), ("is_body" : Str), ("is_function" : Str), ("copied_step" : Str), ("copied_body" : Str), ("first_names" : Str), ("Program" : Str), ("check_program" : Str), ("Live" : Str), ("_law_hash" : Str), ("_law_step_drawn" : Str), ("_law_cell" : Str), ("_law_rights_drawn" : Str), ("_law_owners_drawn" : Str), ("_law_count" : Str), ("_law_random" : Str), ("_law_body_drawn" : Str), ("_law_copied" : Str), ("_law_program" : Str), ("_law_generator" : Str), ("_law_parts" : Str), ("_law_step" : Str), ("_law_shows" : Str), ("_law_undone" : Str)]
theorem run (w : World) : HandSHeadRun.RunEq R (PySem.W.view R.prog [44]) hk ob 4000 loose w := by
  intro os
  kernel_rfl
section
variable {P : Program} {K : PySem.W.Frag} {h : Heap} {mg : Str → Option Value}
theorem says_x (c : obs1 K = val1) : xB K = true := congrArg (fun z : Ob => z.2) c
theorem says_d (c : obs1 K = val1) : He.SaysD fa fn K := congrArg (fun z : Ob => z.1) c
theorem says_m (c : obs1 K = val1) (X : K.In h) : Mods h := by
  obtain ⟨q, _⟩ := He.ba (says_x c)
  unfold modB at q
  split at q
  · rename_i z
    exact ⟨_, X _ _ z, congrArg Value.type (of_decide_eq_true q)⟩
  · cases q
theorem ty_in : ∀ d : PyData, tyN d ∈ HdB.tys
  | .none => by decide
  | .bool _ => by show "bool" ∈ HdB.tys; decide
  | .int _ => by show "int" ∈ HdB.tys; decide
  | .str _ => by show "str" ∈ HdB.tys; decide
  | .list _ => by show "list" ∈ HdB.tys; decide
  | .tuple _ => by show "tuple" ∈ HdB.tys; decide
  | .dict _ => by show "dict" ∈ HdB.tys; decide
theorem ty_in2 : ∀ d : PyData, EqAny.tyD d ∈ HdB.tys
  | .none => by show "NoneType" ∈ HdB.tys; decide
  | .bool _ => by show "bool" ∈ HdB.tys; decide
  | .int _ => by show "int" ∈ HdB.tys; decide
  | .str _ => by show "str" ∈ HdB.tys; decide
  | .list _ => by show "list" ∈ HdB.tys; decide
  | .tuple _ => by show "tuple" ∈ HdB.tys; decide
  | .dict _ => by show "dict" ∈ HdB.tys; decide
/-- what the head tells -/
structure Told (K : PySem.W.Frag) (mg : Str → Option Value) : Prop where
  hC : PCls K (aC K)
  hL : LCls K (aL K)
  iC : PIsi K (aC K)
  iL : PIsi K (aL K)
  nC : PySem.W.findIn K (.ref (aC K)) "__ne__" = some (some (.builtin "object.__ne__"))
  nL : PySem.W.findIn K (.ref (aL K)) "__ne__" = some (some (.builtin "object.__ne__"))
  od : LOdd K (aC K) (aL K)
  mD : ∀ d : PyData, PySem.W.mroIn K (aL K) (.type (EqAny.tyD d)) = some false
  nf1 : PySem.W.notFirst K (aL K) (.ref (aC K)) = true
  nf2 : PySem.W.notFirst K (aC K) (.ref (aL K)) = true
  N : NTU K mg (aN K)
  D : TxtD mg
  P : TxtP mg
  T : TxtN mg
  Y : TxtL mg
theorem facts (X : K.In h) (G : h.Ns mainGlobals mg) (c : obs1 K = val1) : Told K mg := by
  have cd := says_d c
  obtain ⟨_, q⟩ := He.ba (says_x c)
  obtain ⟨q1, q⟩ := He.ba q
  obtain ⟨q2, q⟩ := He.ba q
  obtain ⟨q3, q⟩ := He.ba q
  obtain ⟨q4, q5⟩ := He.ba q
  obtain ⟨a1, a2, a3, a4, a5⟩ := HdB.isiB_ok q1
  obtain ⟨b1, b2, b3, b4, b5⟩ := HdB.isiB_ok q2
  obtain ⟨t1, q3⟩ := He.ba q3
  obtain ⟨t2, q3⟩ := He.ba q3
  obtain ⟨t3, q3⟩ := He.ba q3
  obtain ⟨t4, t5⟩ := He.ba q3
  have kt : ∀ t, t ∈ HdB.tys → tyB K t = true := fun t ht => List.all_eq_true.mp t1 t ht
  have ox := HdB.oexB_ok q4
  exact {
    hC := ⟨He.cls_ok (cd.fact 47 (f := .cls "Program") rfl), He.noat_ok (cd.fact 48 (f := .noat "Program" "listed") rfl), He.noat_ok (cd.fact 49 (f := .noat "Program" "held") rfl), He.noat_ok (cd.fact 50 (f := .noat "Program" "bodies") rfl)⟩
    hL := ⟨He.cls_ok (cd.fact 52 (f := .cls "Live") rfl), He.noat_ok (cd.fact 53 (f := .noat "Live" "now") rfl), He.noat_ok (cd.fact 54 (f := .noat "Live" "past") rfl)⟩
    iC := ⟨a1, a2, a3, a4⟩
    iL := ⟨b1, b2, b3, b4⟩
    nC := a5
    nL := b5
    od := ⟨fun d => of_decide_eq_true (He.ba (kt _ (ty_in d))).1, of_decide_eq_true t2, of_decide_eq_true t3⟩
    mD := fun d => of_decide_eq_true (He.ba (kt _ (ty_in2 d))).2
    nf1 := t4
    nf2 := t5
    N := ⟨ox, He.eqO_ok q5, (He.glo_ok X G (cd.fact 28 (f := .glo "NothingToUndo") rfl)), ox.exC, ox.tyC, He.exm_ok (cd.fact 70 (f := .exm "NothingToUndo" "NothingToUndo" true) rfl)⟩
    D := { m_len := (He.free_ok X G (cd.fact 29 (f := .free "len") rfl)), m_int := (He.free_ok X G (cd.fact 30 (f := .free "int") rfl)), m_max := (He.free_ok X G (cd.fact 31 (f := .free "max") rfl)), m_range := (He.free_ok X G (cd.fact 32 (f := .free "range") rfl)) }
    P := { m_isinstance := (He.free_ok X G (cd.fact 34 (f := .free "isinstance") rfl)), m_list := (He.free_ok X G (cd.fact 35 (f := .free "list") rfl)), m_tuple := (He.free_ok X G (cd.fact 36 (f := .free "tuple") rfl)), m_sum := (He.free_ok X G (cd.fact 33 (f := .free "sum") rfl)), m_len := (He.free_ok X G (cd.fact 29 (f := .free "len") rfl)), m_range := (He.free_ok X G (cd.fact 32 (f := .free "range") rfl)) }
    T := { m_isinstance := (He.free_ok X G (cd.fact 34 (f := .free "isinstance") rfl)), m_list := (He.free_ok X G (cd.fact 35 (f := .free "list") rfl)), m_tuple := (He.free_ok X G (cd.fact 36 (f := .free "tuple") rfl)), m_str := (He.free_ok X G (cd.fact 37 (f := .free "str") rfl)), m_bool := (He.free_ok X G (cd.fact 38 (f := .free "bool") rfl)), m_len := (He.free_ok X G (cd.fact 29 (f := .free "len") rfl)), m_set := (He.free_ok X G (cd.fact 39 (f := .free "set") rfl)), m_enumerate := (He.free_ok X G (cd.fact 40 (f := .free "enumerate") rfl)), g_LETTERS := He.str_ok X G (cd.fact 42 (f := .str "LETTERS" letters) rfl), g_MOST_LETTERS := He.int_ok X G (cd.fact 43 (f := .int "MOST_LETTERS" 8) rfl), g_MOST_RIGHTS := He.int_ok X G (cd.fact 44 (f := .int "MOST_RIGHTS" 5) rfl), g_MOST_OWNERS := He.int_ok X G (cd.fact 45 (f := .int "MOST_OWNERS" 5) rfl), g_MOST_FUNCTIONS := He.int_ok X G (cd.fact 46 (f := .int "MOST_FUNCTIONS" 6) rfl) }
    Y := { m_len := (He.free_ok X G (cd.fact 29 (f := .free "len") rfl)), m_range := (He.free_ok X G (cd.fact 32 (f := .free "range") rfl)), m_repr := (He.free_ok X G (cd.fact 41 (f := .free "repr") rfl)), m_max := (He.free_ok X G (cd.fact 31 (f := .free "max") rfl)), m_list := (He.free_ok X G (cd.fact 35 (f := .free "list") rfl)) } }
theorem walk {w : World} {fa0 : Addr} (X : K.In h) (G : h.Ns mainGlobals mg) (hl : mg "law" = some (.ref fa0)) (c : obs1 K = val1) :
    ∃ fd : FuncData, (∀ (s : Shared) (u : Value), BindsTo s fd ⟨[u], []⟩ [("script", u)]) ∧ ∀ base : Heap, K.In base → base.Ns mainGlobals mg → Mods base → FG Pg w K mg base CX0 22 fa0 fd ["script"] (sp_law K) := by
  have cd := says_d c
  have Z := facts X G c
  obtain ⟨fd_law_cell, F_law_cell⟩ := cd.def_ 0 (d := d_law_cell) rfl
  obtain ⟨fd_law_hash, F_law_hash⟩ := cd.def_ 1 (d := d_law_hash) rfl
  obtain ⟨fd_law_generator, F_law_generator⟩ := cd.def_ 2 (d := d_law_generator) rfl
  obtain ⟨fd_law_random, F_law_random⟩ := cd.def_ 3 (d := d_law_random) rfl
  obtain ⟨fd_law_rights_drawn, F_law_rights_drawn⟩ := cd.def_ 4 (d := d_law_rights_drawn) rfl
  obtain ⟨fd_law_owners_drawn, F_law_owners_drawn⟩ := cd.def_ 5 (d := d_law_owners_drawn) rfl
  obtain ⟨fd_law_step_drawn, F_law_step_drawn⟩ := cd.def_ 6 (d := d_law_step_drawn) rfl
  obtain ⟨fd_law_body_drawn, F_law_body_drawn⟩ := cd.def_ 7 (d := d_law_body_drawn) rfl
  obtain ⟨fd_law_count, F_law_count⟩ := cd.def_ 8 (d := d_law_count) rfl
  obtain ⟨fd_law_copied, F_law_copied⟩ := cd.def_ 9 (d := d_law_copied) rfl
  obtain ⟨fd_law_parts, F_law_parts⟩ := cd.def_ 10 (d := d_law_parts) rfl
  obtain ⟨fd_law_program, F_law_program⟩ := cd.def_ 11 (d := d_law_program) rfl
  obtain ⟨fd_law_step, F_law_step⟩ := cd.def_ 12 (d := d_law_step) rfl
  obtain ⟨fd_law_shows, F_law_shows⟩ := cd.def_ 13 (d := d_law_shows) rfl
  obtain ⟨fd_law_undone, F_law_undone⟩ := cd.def_ 14 (d := d_law_undone) rfl
  obtain ⟨fd_law, F_law⟩ := cd.def_ 15 (d := d_law) rfl
  obtain ⟨fd_is_name, F_is_name⟩ := cd.def_ 16 (d := d_is_name) rfl
  obtain ⟨fd_check_size, F_check_size⟩ := cd.def_ 17 (d := d_check_size) rfl
  obtain ⟨fd_is_owner, F_is_owner⟩ := cd.def_ 18 (d := d_is_owner) rfl
  obtain ⟨fd_is_step, F_is_step⟩ := cd.def_ 19 (d := d_is_step) rfl
  obtain ⟨fd_is_body, F_is_body⟩ := cd.def_ 20 (d := d_is_body) rfl
  obtain ⟨fd_is_function, F_is_function⟩ := cd.def_ 21 (d := d_is_function) rfl
  obtain ⟨fd_copied_step, F_copied_step⟩ := cd.def_ 22 (d := d_copied_step) rfl
  obtain ⟨fd_copied_body, F_copied_body⟩ := cd.def_ 23 (d := d_copied_body) rfl
  obtain ⟨fd_first_names, F_first_names⟩ := cd.def_ 24 (d := d_first_names) rfl
  obtain ⟨fd_check_program, F_check_program⟩ := cd.def_ 25 (d := d_check_program) rfl
  obtain ⟨fd_Program_init, F_Program_init⟩ := cd.def_ 26 (d := d_Program_init) rfl
  obtain ⟨fd_Program_rights, F_Program_rights⟩ := cd.def_ 27 (d := d_Program_rights) rfl
  obtain ⟨fd_Program_owners, F_Program_owners⟩ := cd.def_ 28 (d := d_Program_owners) rfl
  obtain ⟨fd_Program_functions, F_Program_functions⟩ := cd.def_ 29 (d := d_Program_functions) rfl
  obtain ⟨fd_Program_eq, F_Program_eq⟩ := cd.def_ 30 (d := d_Program_eq) rfl
  obtain ⟨fd_Live_init, F_Live_init⟩ := cd.def_ 31 (d := d_Live_init) rfl
  obtain ⟨fd_Live_check_owner, F_Live_check_owner⟩ := cd.def_ 32 (d := d_Live_check_owner) rfl
  obtain ⟨fd_Live_lead, F_Live_lead⟩ := cd.def_ 33 (d := d_Live_lead) rfl
  obtain ⟨fd_Live_grant, F_Live_grant⟩ := cd.def_ 34 (d := d_Live_grant) rfl
  obtain ⟨fd_Live_revoke, F_Live_revoke⟩ := cd.def_ 35 (d := d_Live_revoke) rfl
  obtain ⟨fd_Live_rewrite, F_Live_rewrite⟩ := cd.def_ 36 (d := d_Live_rewrite) rfl
  obtain ⟨fd_Live_shown, F_Live_shown⟩ := cd.def_ 37 (d := d_Live_shown) rfl
  obtain ⟨fd_Live_back, F_Live_back⟩ := cd.def_ 38 (d := d_Live_back) rfl
  obtain ⟨fd_Live_log, F_Live_log⟩ := cd.def_ 39 (d := d_Live_log) rfl
  obtain ⟨fd_Live_copy, F_Live_copy⟩ := cd.def_ 40 (d := d_Live_copy) rfl
  obtain ⟨fd_Live_eq, F_Live_eq⟩ := cd.def_ 41 (d := d_Live_eq) rfl
  have g_law_cell : mg "_law_cell" = some (.ref (He.ga K "_law_cell")) := He.glo_ok X G (cd.fact 0 (f := .glo "_law_cell") rfl)
  have g_law_hash : mg "_law_hash" = some (.ref (He.ga K "_law_hash")) := He.glo_ok X G (cd.fact 1 (f := .glo "_law_hash") rfl)
  have g_law_generator : mg "_law_generator" = some (.ref (He.ga K "_law_generator")) := He.glo_ok X G (cd.fact 2 (f := .glo "_law_generator") rfl)
  have g_law_random : mg "_law_random" = some (.ref (He.ga K "_law_random")) := He.glo_ok X G (cd.fact 3 (f := .glo "_law_random") rfl)
  have g_law_rights_drawn : mg "_law_rights_drawn" = some (.ref (He.ga K "_law_rights_drawn")) := He.glo_ok X G (cd.fact 4 (f := .glo "_law_rights_drawn") rfl)
  have g_law_owners_drawn : mg "_law_owners_drawn" = some (.ref (He.ga K "_law_owners_drawn")) := He.glo_ok X G (cd.fact 5 (f := .glo "_law_owners_drawn") rfl)
  have g_law_step_drawn : mg "_law_step_drawn" = some (.ref (He.ga K "_law_step_drawn")) := He.glo_ok X G (cd.fact 6 (f := .glo "_law_step_drawn") rfl)
  have g_law_body_drawn : mg "_law_body_drawn" = some (.ref (He.ga K "_law_body_drawn")) := He.glo_ok X G (cd.fact 7 (f := .glo "_law_body_drawn") rfl)
  have g_law_count : mg "_law_count" = some (.ref (He.ga K "_law_count")) := He.glo_ok X G (cd.fact 8 (f := .glo "_law_count") rfl)
  have g_law_copied : mg "_law_copied" = some (.ref (He.ga K "_law_copied")) := He.glo_ok X G (cd.fact 9 (f := .glo "_law_copied") rfl)
  have g_law_parts : mg "_law_parts" = some (.ref (He.ga K "_law_parts")) := He.glo_ok X G (cd.fact 10 (f := .glo "_law_parts") rfl)
  have g_law_program : mg "_law_program" = some (.ref (He.ga K "_law_program")) := He.glo_ok X G (cd.fact 11 (f := .glo "_law_program") rfl)
  have g_law_step : mg "_law_step" = some (.ref (He.ga K "_law_step")) := He.glo_ok X G (cd.fact 12 (f := .glo "_law_step") rfl)
  have g_law_shows : mg "_law_shows" = some (.ref (He.ga K "_law_shows")) := He.glo_ok X G (cd.fact 13 (f := .glo "_law_shows") rfl)
  have g_law_undone : mg "_law_undone" = some (.ref (He.ga K "_law_undone")) := He.glo_ok X G (cd.fact 14 (f := .glo "_law_undone") rfl)
  have g_law : mg "law" = some (.ref (He.ga K "law")) := He.glo_ok X G (cd.fact 15 (f := .glo "law") rfl)
  have g_is_name : mg "is_name" = some (.ref (He.ga K "is_name")) := He.glo_ok X G (cd.fact 16 (f := .glo "is_name") rfl)
  have g_check_size : mg "check_size" = some (.ref (He.ga K "check_size")) := He.glo_ok X G (cd.fact 17 (f := .glo "check_size") rfl)
  have g_is_owner : mg "is_owner" = some (.ref (He.ga K "is_owner")) := He.glo_ok X G (cd.fact 18 (f := .glo "is_owner") rfl)
  have g_is_step : mg "is_step" = some (.ref (He.ga K "is_step")) := He.glo_ok X G (cd.fact 19 (f := .glo "is_step") rfl)
  have g_is_body : mg "is_body" = some (.ref (He.ga K "is_body")) := He.glo_ok X G (cd.fact 20 (f := .glo "is_body") rfl)
  have g_is_function : mg "is_function" = some (.ref (He.ga K "is_function")) := He.glo_ok X G (cd.fact 21 (f := .glo "is_function") rfl)
  have g_copied_step : mg "copied_step" = some (.ref (He.ga K "copied_step")) := He.glo_ok X G (cd.fact 22 (f := .glo "copied_step") rfl)
  have g_copied_body : mg "copied_body" = some (.ref (He.ga K "copied_body")) := He.glo_ok X G (cd.fact 23 (f := .glo "copied_body") rfl)
  have g_first_names : mg "first_names" = some (.ref (He.ga K "first_names")) := He.glo_ok X G (cd.fact 24 (f := .glo "first_names") rfl)
  have g_check_program : mg "check_program" = some (.ref (He.ga K "check_program")) := He.glo_ok X G (cd.fact 25 (f := .glo "check_program") rfl)
  have g_Program : mg "Program" = some (.ref (He.ga K "Program")) := He.glo_ok X G (cd.fact 26 (f := .glo "Program") rfl)
  have g_Live : mg "Live" = some (.ref (He.ga K "Live")) := He.glo_ok X G (cd.fact 27 (f := .glo "Live") rfl)
  have b_law_cell := F_law_cell.bindsN (ps := ["script", "index"]) fun _ _ _ _ _ _ us hl => match us, hl with | [_, _], _ => rfl
  have k_law_cell := F_law_cell.kp
  have b_law_hash := F_law_hash.bindsN (ps := ["seed", "index"]) fun _ _ _ _ _ _ us hl => match us, hl with | [_, _], _ => rfl
  have k_law_hash := F_law_hash.kp
  have b_law_generator := F_law_generator.bindsN (ps := ["script", "index"]) fun _ _ _ _ _ _ us hl => match us, hl with | [_, _], _ => rfl
  have k_law_generator := F_law_generator.kp
  have b_law_random := F_law_random.bindsN (ps := ["generator", "bound"]) fun _ _ _ _ _ _ us hl => match us, hl with | [_, _], _ => rfl
  have k_law_random := F_law_random.kp
  have b_law_rights_drawn := F_law_rights_drawn.bindsN (ps := ["generator"]) fun _ _ _ _ _ _ us hl => match us, hl with | [_], _ => rfl
  have k_law_rights_drawn := F_law_rights_drawn.kp
  have b_law_owners_drawn := F_law_owners_drawn.bindsN (ps := ["generator", "rights"]) fun _ _ _ _ _ _ us hl => match us, hl with | [_, _], _ => rfl
  have k_law_owners_drawn := F_law_owners_drawn.kp
  have b_law_step_drawn := F_law_step_drawn.bindsN (ps := ["generator", "rights", "names", "deep", "marked"]) fun _ _ _ _ _ _ us hl => match us, hl with | [_, _, _, _, _], _ => rfl
  have k_law_step_drawn := F_law_step_drawn.kp
  have b_law_body_drawn := F_law_body_drawn.bindsN (ps := ["generator", "rights", "names", "deep", "marked", "most"]) fun _ _ _ _ _ _ us hl => match us, hl with | [_, _, _, _, _, _], _ => rfl
  have k_law_body_drawn := F_law_body_drawn.kp
  have b_law_count := F_law_count.bindsN (ps := ["body"]) fun _ _ _ _ _ _ us hl => match us, hl with | [_], _ => rfl
  have k_law_count := F_law_count.kp
  have b_law_copied := F_law_copied.bindsN (ps := ["body"]) fun _ _ _ _ _ _ us hl => match us, hl with | [_], _ => rfl
  have k_law_copied := F_law_copied.kp
  have b_law_parts := F_law_parts.bindsN (ps := ["generator", "many", "most"]) fun _ _ _ _ _ _ us hl => match us, hl with | [_, _, _], _ => rfl
  have k_law_parts := F_law_parts.kp
  have b_law_program := F_law_program.bindsN (ps := ["parts"]) fun _ _ _ _ _ _ us hl => match us, hl with | [_], _ => rfl
  have k_law_program := F_law_program.kp
  have b_law_step := F_law_step.bindsN (ps := ["generator", "live", "state"]) fun _ _ _ _ _ _ us hl => match us, hl with | [_, _, _], _ => rfl
  have k_law_step := F_law_step.kp
  have b_law_shows := F_law_shows.bindsN (ps := ["lives", "states"]) fun _ _ _ _ _ _ us hl => match us, hl with | [_, _], _ => rfl
  have k_law_shows := F_law_shows.kp
  have b_law_undone := F_law_undone.bindsN (ps := ["live", "state"]) fun _ _ _ _ _ _ us hl => match us, hl with | [_, _], _ => rfl
  have k_law_undone := F_law_undone.kp
  have b_law := F_law.bindsN (ps := ["script"]) fun _ _ _ _ _ _ us hl => match us, hl with | [_], _ => rfl
  have k_law := F_law.kp
  have b_is_name := F_is_name.bindsN (ps := ["value"]) fun _ _ _ _ _ _ us hl => match us, hl with | [_], _ => rfl
  have k_is_name := F_is_name.kp
  have b_check_size := F_check_size.bindsN (ps := ["value", "most"]) fun _ _ _ _ _ _ us hl => match us, hl with | [_, _], _ => rfl
  have k_check_size := F_check_size.kp
  have b_is_owner := F_is_owner.bindsN (ps := ["value", "rights"]) fun _ _ _ _ _ _ us hl => match us, hl with | [_, _], _ => rfl
  have k_is_owner := F_is_owner.kp
  have b_is_step := F_is_step.bindsN (ps := ["value", "rights", "names", "marked"]) fun _ _ _ _ _ _ us hl => match us, hl with | [_, _, _, _], _ => rfl
  have k_is_step := F_is_step.kp
  have b_is_body := F_is_body.bindsN (ps := ["value", "rights", "names", "marked"]) fun _ _ _ _ _ _ us hl => match us, hl with | [_, _, _, _], _ => rfl
  have k_is_body := F_is_body.kp
  have b_is_function := F_is_function.bindsN (ps := ["value", "rights", "owners", "names"]) fun _ _ _ _ _ _ us hl => match us, hl with | [_, _, _, _], _ => rfl
  have k_is_function := F_is_function.kp
  have b_copied_step := F_copied_step.bindsN (ps := ["step"]) fun _ _ _ _ _ _ us hl => match us, hl with | [_], _ => rfl
  have k_copied_step := F_copied_step.kp
  have b_copied_body := F_copied_body.bindsN (ps := ["body"]) fun _ _ _ _ _ _ us hl => match us, hl with | [_], _ => rfl
  have k_copied_body := F_copied_body.kp
  have b_first_names := F_first_names.bindsN (ps := ["functions"]) fun _ _ _ _ _ _ us hl => match us, hl with | [_], _ => rfl
  have k_first_names := F_first_names.kp
  have b_check_program := F_check_program.bindsN (ps := ["value"]) fun _ _ _ _ _ _ us hl => match us, hl with | [_], _ => rfl
  have k_check_program := F_check_program.kp
  have b_Program_init := F_Program_init.bindsN (ps := ["self", "rights", "owners", "functions"]) fun _ _ _ _ _ _ us hl => match us, hl with | [_, _, _, _], _ => rfl
  have b_Program_rights := F_Program_rights.bindsN (ps := ["self"]) fun _ _ _ _ _ _ us hl => match us, hl with | [_], _ => rfl
  have m_Program_rights := He.meth_ok (cd.fact 56 (f := .meth "Program" "rights") rfl)
  have b_Program_owners := F_Program_owners.bindsN (ps := ["self"]) fun _ _ _ _ _ _ us hl => match us, hl with | [_], _ => rfl
  have m_Program_owners := He.meth_ok (cd.fact 57 (f := .meth "Program" "owners") rfl)
  have b_Program_functions := F_Program_functions.bindsN (ps := ["self"]) fun _ _ _ _ _ _ us hl => match us, hl with | [_], _ => rfl
  have m_Program_functions := He.meth_ok (cd.fact 58 (f := .meth "Program" "functions") rfl)
  have b_Program_eq := F_Program_eq.bindsN (ps := ["self", "other"]) fun _ _ _ _ _ _ us hl => match us, hl with | [_, _], _ => rfl
  have m_Program_eq := He.meth_ok (cd.fact 59 (f := .meth "Program" "__eq__") rfl)
  have b_Live_init := F_Live_init.bindsN (ps := ["self", "program"]) fun _ _ _ _ _ _ us hl => match us, hl with | [_, _], _ => rfl
  have b_Live_check_owner := F_Live_check_owner.bindsN (ps := ["self", "name"]) fun _ _ _ _ _ _ us hl => match us, hl with | [_, _], _ => rfl
  have m_Live_check_owner := He.meth_ok (cd.fact 60 (f := .meth "Live" "check_owner") rfl)
  have b_Live_lead := F_Live_lead.bindsN (ps := ["self", "deed", "owners", "functions"]) fun _ _ _ _ _ _ us hl => match us, hl with | [_, _, _, _], _ => rfl
  have m_Live_lead := He.meth_ok (cd.fact 61 (f := .meth "Live" "lead") rfl)
  have b_Live_grant := F_Live_grant.bindsN (ps := ["self", "owner", "right"]) fun _ _ _ _ _ _ us hl => match us, hl with | [_, _, _], _ => rfl
  have m_Live_grant := He.meth_ok (cd.fact 62 (f := .meth "Live" "grant") rfl)
  have b_Live_revoke := F_Live_revoke.bindsN (ps := ["self", "owner", "right"]) fun _ _ _ _ _ _ us hl => match us, hl with | [_, _, _], _ => rfl
  have m_Live_revoke := He.meth_ok (cd.fact 63 (f := .meth "Live" "revoke") rfl)
  have b_Live_rewrite := F_Live_rewrite.bindsN (ps := ["self", "name", "body"]) fun _ _ _ _ _ _ us hl => match us, hl with | [_, _, _], _ => rfl
  have m_Live_rewrite := He.meth_ok (cd.fact 64 (f := .meth "Live" "rewrite") rfl)
  have b_Live_shown := F_Live_shown.bindsN (ps := ["self"]) fun _ _ _ _ _ _ us hl => match us, hl with | [_], _ => rfl
  have m_Live_shown := He.meth_ok (cd.fact 65 (f := .meth "Live" "shown") rfl)
  have b_Live_back := F_Live_back.bindsN (ps := ["self"]) fun _ _ _ _ _ _ us hl => match us, hl with | [_], _ => rfl
  have m_Live_back := He.meth_ok (cd.fact 66 (f := .meth "Live" "back") rfl)
  have b_Live_log := F_Live_log.bindsN (ps := ["self"]) fun _ _ _ _ _ _ us hl => match us, hl with | [_], _ => rfl
  have m_Live_log := He.meth_ok (cd.fact 67 (f := .meth "Live" "log") rfl)
  have b_Live_copy := F_Live_copy.bindsN (ps := ["self"]) fun _ _ _ _ _ _ us hl => match us, hl with | [_], _ => rfl
  have m_Live_copy := He.meth_ok (cd.fact 68 (f := .meth "Live" "copy") rfl)
  have b_Live_eq := F_Live_eq.bindsN (ps := ["self", "other"]) fun _ _ _ _ _ _ us hl => match us, hl with | [_, _], _ => rfl
  have m_Live_eq := He.meth_ok (cd.fact 69 (f := .meth "Live" "__eq__") rfl)
  have M_Program := He.mkr_ok (cd.fact 51 (f := .mkr "Program") rfl)
  have M_Live := He.mkr_ok (cd.fact 55 (f := .mkr "Live") rfl)
  have e := hl.symm.trans g_law
  cases e
  refine ⟨fd_law, fun s v => (FunD.bindsA (ps := ["script"]) F_law fun _ _ _ _ _ _ us hl => match us, hl with | [_], _ => rfl) s [v] rfl, fun base _ _ hB => ?_⟩
  have G_law_generator := ok_generator (P := Pg) (w := w) (base := base) F_law_generator F_law_cell g_law_cell Z.D
  have G_law_random := ok_rnd (P := Pg) (w := w) (base := base) F_law_random F_law_hash g_law_hash Z.D
  have G_law_rights_drawn := ok_rights_drawn (P := Pg) (w := w) (base := base) F_law_rights_drawn G_law_random g_law_random k_law_random b_law_random
  have G_law_owners_drawn := ok_owners_drawn (P := Pg) (w := w) (base := base) F_law_owners_drawn G_law_random g_law_random k_law_random b_law_random
  have G_draw := ok_draw (P := Pg) (w := w) (base := base) F_law_step_drawn F_law_body_drawn G_law_random g_law_random k_law_random b_law_random g_law_step_drawn g_law_body_drawn Z.D
  have G_count := ok_count (P := Pg) (w := w) (base := base) F_law_count g_law_count Z.P
  have G_copied := ok_copied (P := Pg) (w := w) (base := base) F_law_copied g_law_copied Z.P
  have G_law_parts := ok_parts (P := Pg) (w := w) (base := base) F_law_parts G_law_random g_law_random k_law_random b_law_random G_law_rights_drawn g_law_rights_drawn k_law_rights_drawn b_law_rights_drawn G_law_owners_drawn g_law_owners_drawn k_law_owners_drawn b_law_owners_drawn (G_draw 2).2 g_law_body_drawn k_law_body_drawn b_law_body_drawn (G_count 3) g_law_count k_law_count b_law_count Z.P
  have G_is_name := ok_name (P := Pg) (w := w) (base := base) F_is_name Z.T
  have G_check_size := ok_size (P := Pg) (w := w) (base := base) F_check_size Z.T
  have G_is_owner := ok_owner (P := Pg) (w := w) (base := base) F_is_owner G_is_name g_is_name k_is_name b_is_name Z.T
  have G_is := ok_is (P := Pg) (w := w) (base := base) F_is_step F_is_body g_is_step g_is_body Z.T
  have G_cp := ok_cp (P := Pg) (w := w) (base := base) F_copied_step F_copied_body g_copied_step g_copied_body Z.T
  have G_is_body := (G_is 6).2
  have G_copied_body := (G_cp 6).2
  have G_is_function := ok_function (P := Pg) (w := w) (base := base) 6 F_is_function G_is_name g_is_name k_is_name b_is_name G_is_body g_is_body k_is_body b_is_body Z.T
  have G_first_names := ok_firsts (P := Pg) (w := w) (base := base) F_first_names G_is_name g_is_name k_is_name b_is_name Z.T
  have G_Program := ok_pinit (P := Pg) (w := w) (base := base) F_Program_init G_is_name g_is_name k_is_name b_is_name G_check_size g_check_size k_check_size b_check_size G_is_owner g_is_owner k_is_owner b_is_owner G_first_names g_first_names k_first_names b_first_names G_is_function g_is_function k_is_function b_is_function G_copied_body g_copied_body k_copied_body b_copied_body Z.T
  have G_Program_rights := ok_prights (P := Pg) (w := w) (base := base) (C := aC K) F_Program_rights Z.T
  have G_Program_owners := ok_powners (P := Pg) (w := w) (base := base) (C := aC K) F_Program_owners Z.T
  have G_Program_functions := ok_pfunctions (P := Pg) (w := w) (base := base) (C := aC K) F_Program_functions G_copied_body g_copied_body k_copied_body b_copied_body Z.T
  have G_law_program := ok_lprogram (P := Pg) (w := w) (base := base) F_law_program (G_copied 6) g_law_copied k_law_copied b_law_copied M_Program G_Program g_Program b_Program_init Z.T
  have G_Program_eq := ok_peq (P := Pg) (w := w) (base := base) F_Program_eq Z.hC Z.iC g_Program m_Program_owners G_Program_owners b_Program_owners m_Program_functions G_Program_functions b_Program_functions Z.T
  have G_check_program := ok_chkp (P := Pg) (w := w) (base := base) F_check_program Z.hC Z.iC g_Program Z.T
  have G_Live := ok_linit (P := Pg) (w := w) (base := base) F_Live_init Z.hL G_check_program g_check_program k_check_program b_check_program Z.T
  have G_Live_shown := ok_shown (P := Pg) (w := w) (base := base) (C := aC K) (L := aL K) F_Live_shown m_Program_rights G_Program_rights b_Program_rights m_Program_owners G_Program_owners b_Program_owners m_Program_functions G_Program_functions b_Program_functions Z.hC.c M_Program G_Program g_Program b_Program_init Z.T
  have G_Live_check_owner := ok_chko (P := Pg) (w := w) (base := base) (C := aC K) (L := aL K) F_Live_check_owner Z.T
  have G_Live_back := ok_back0 (P := Pg) (w := w) (base := base) (C := aC K) (L := aL K) F_Live_back Z.T
  have G_Live_lead := ok_lead (P := Pg) (w := w) (base := base) (C := aC K) (L := aL K) F_Live_lead m_Program_rights G_Program_rights b_Program_rights Z.hC.c M_Program G_Program g_Program b_Program_init Z.T
  have G_Live_grant := ok_grant (P := Pg) (w := w) (base := base) (C := aC K) (L := aL K) F_Live_grant Z.hL.c Z.hC.c m_Live_check_owner G_Live_check_owner b_Live_check_owner m_Program_owners G_Program_owners b_Program_owners m_Program_functions G_Program_functions b_Program_functions m_Live_lead G_Live_lead b_Live_lead Z.T
  have G_Live_revoke := ok_revoke (P := Pg) (w := w) (base := base) (C := aC K) (L := aL K) F_Live_revoke Z.hL.c Z.hC.c m_Live_check_owner G_Live_check_owner b_Live_check_owner m_Program_owners G_Program_owners b_Program_owners m_Program_functions G_Program_functions b_Program_functions m_Live_lead G_Live_lead b_Live_lead Z.T
  have G_Live_rewrite := ok_rewrite (P := Pg) (w := w) (base := base) (C := aC K) (L := aL K) F_Live_rewrite Z.hL.c Z.hC.c G_is_body g_is_body k_is_body b_is_body G_copied_body g_copied_body k_copied_body b_copied_body m_Program_owners G_Program_owners b_Program_owners m_Program_functions G_Program_functions b_Program_functions m_Live_lead G_Live_lead b_Live_lead Z.T
  have G_Live_log := ok_llog (P := Pg) (w := w) (base := base) (C := aC K) (L := aL K) F_Live_log G_copied_body g_copied_body k_copied_body b_copied_body Z.T
  have G_Live_copy := ok_lcopy (P := Pg) (w := w) (base := base) (C := aC K) (L := aL K) F_Live_copy M_Live G_Live g_Live b_Live_init Z.T
  have G_Live_eq := ok_leq (P := Pg) (w := w) (base := base) (C := aC K) (L := aL K) F_Live_eq Z.iL g_Live G_Program_eq m_Program_eq.at_ m_Program_eq.fn b_Program_eq Z.T
  have G_backE := ok_backE (P := Pg) (w := w) (base := base) (C := aC K) (L := aL K) F_Live_back Z.N Z.T
  have G_logH := ok_logH (P := Pg) (w := w) (base := base) (C := aC K) (L := aL K) F_Live_log Z.T
  have G_law_step := ok_lstep (P := Pg) (w := w) (base := base) (C := aC K) (L := aL K) F_law_step Z.hL.c m_Live_back G_Live_back b_Live_back m_Live_grant G_Live_grant b_Live_grant m_Live_revoke G_Live_revoke b_Live_revoke m_Live_rewrite G_Live_rewrite b_Live_rewrite G_law_random g_law_random k_law_random b_law_random (G_draw 1).2 g_law_body_drawn k_law_body_drawn b_law_body_drawn (G_copied 6) g_law_copied k_law_copied b_law_copied Z.T
  have G_law_shows := ok_shows (P := Pg) (w := w) (base := base) (C := aC K) (L := aL K) F_law_shows Z.hL.c hB G_law_program g_law_program k_law_program b_law_program m_Live_shown G_Live_shown b_Live_shown m_Live_log G_Live_log b_Live_log G_Program_eq m_Program_eq.at_ m_Program_eq.fn Z.nC Z.iC.hm b_Program_eq G_Live_eq m_Live_eq.at_ m_Live_eq.fn Z.nL Z.iL.hm b_Live_eq Z.Y
  have G_law_undone := ok_undone (P := Pg) (w := w) (base := base) (C := aC K) (L := aL K) F_law_undone Z.hL.c Z.N m_Live_back G_Live_back G_backE b_Live_back m_Live_log G_logH b_Live_log m_Live_shown G_Live_shown b_Live_shown G_law_program g_law_program k_law_program b_law_program G_Program_eq m_Program_eq.at_ m_Program_eq.fn Z.nC Z.iC.hm b_Program_eq Z.Y
  exact ok_law F_law Z.hC Z.hL Z.iC Z.iL Z.od Z.hL.c G_law_generator g_law_generator k_law_generator b_law_generator G_law_random g_law_random k_law_random b_law_random G_law_parts g_law_parts k_law_parts b_law_parts G_law_program g_law_program k_law_program b_law_program M_Live G_Live g_Live b_Live_init G_law_step g_law_step k_law_step b_law_step G_law_shows g_law_shows k_law_shows b_law_shows G_law_undone g_law_undone k_law_undone b_law_undone m_Live_shown G_Live_shown b_Live_shown m_Live_copy G_Live_copy b_Live_copy m_Live_log G_Live_log b_Live_log G_Program_eq m_Program_eq.at_ m_Program_eq.fn b_Program_eq G_Live_eq m_Live_eq.at_ m_Live_eq.fn Z.nL Z.iL.hm b_Live_eq Z.mD Z.nf1 Z.nf2 Z.Y
end
end Bs
open PySem PySem.W PySem.Calls PyProof.Rows
theorem PySem.Challenge.cw_callersrights_k66_whole_copies_of_live_p_holds : PySem.Challenge.rw_callersrights_k66_whole_copies_of_live_p.Holds := by
  w_on; o_law
  refine HandSHeadRun.head_any (r := OpenLaw.row PySem.Challenge.rw_callersrights_k66_whole_copies_of_live_p) (q := view (OpenLaw.row PySem.Challenge.rw_callersrights_k66_whole_copies_of_live_p).prog [44]) (H := Bs.hk) (ob := Bs.ob) (M := 4000) (loose := Bs.loose) (d := HandSHeadRun.topDef (OpenLaw.row PySem.Challenge.rw_callersrights_k66_whole_copies_of_live_p).prog 44) (kwd := []) Bs.ob_eq
    (by kernel_rfl) (fun s => by kernel_rfl) Bs.run (by kernel_rfl) (by kernel_rfl) (by kernel_rfl) (by rfl) (by first | assumption | decide +kernel) (by decide +kernel) ⟨rfl, rfl, rfl, rfl, rfl, by decide +kernel⟩ ?hw ?hc
  case hw => w_witness2
  case hc =>
    refine Gd.walk_ofG (l := PySem.Challenge.rw_callersrights_k66_whole_copies_of_live_p) (n := 63) (k := 22) (x := "script") rfl (by decide) (by kernel_rfl) ⟨rfl, by decide, by decide⟩ ?F
    intro w mg fa h Y G hmg0
    obtain ⟨K, KX, c⟩ := Y
    have hmg : mg ("law" : PySem.Str) = some (.ref fa) := by
      have e : (HandSHeadRun.topDef (OpenLaw.row PySem.Challenge.rw_callersrights_k66_whole_copies_of_live_p).prog 44).name = ("law" : PySem.Str) := by kernel_rfl
      rw [← e]
      exact hmg0
    obtain ⟨fd, hb, hF⟩ := Bs.walk (w := w) KX G hmg c
    exact ⟨K, fd, Bs.sp_law K, KX, Bs.says_m c KX, hb, fun H a ns hl _ hS => ⟨a, ns, rfl, hS, fun _ => rfl⟩, hF⟩
