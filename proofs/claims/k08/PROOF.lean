import PyProof.Rows.All
import Wide.All
import OpenK.AllK
import Wide.FinOn
import PyProof.EqAt
import PyProof.EqKinds
import PyProof.TupleCall
import KE.KExcSuper
import KE.KExcPX
import HandS.Base
import HandS.Call
import HandS.List
import HandS.Ends
import HandS.Exc
import HandS.ExcField
import HandS.ExcOwn
import HandS.TryOnly
import KE.KExcIs
import HandS.ForMost
import HandS.IsInst
import HandS.Steps
import HandS.Wide
import HandS.Codes
import HandS.ClsMeth
import HandS.Strs
import HandS.Lambda
import HandS.Property
import HandS.OwnEq
import HandS.WordsExc
import HandS.Defaults
import HandS.FStr
import HandS.TupLe
import HandS.AnyAll
import HandS.Style
import HandS.MakeKw
import KE.KEqSeq
import HandS.Walk
import HandS.SlotsOwn
import KE.KOpsOwn
import KE.KFmtOwn
import OpenK.KMeth
import HandS.MakeKwOnly
import HandS.ListItems
import HandS.DictComp
import HandS.Zip
import PyProof.StrBlock2
import HandS.Head0
import HandS.Head1
import HandS.Head2
import HandS.HeadEnd
import HandS.HeadHook1
import HandS.HeadHook2
import HandS.HeadHook4
import HandS.HeadWalk
import KE.KIntText
import PyProof.Rows.StrDigitsNeg
import PyProof.Rows.StrIntSpec
import PySem.Challenge.RW_takenup_k08_sums_and_their_order
set_option Elab.async false
section
set_option linter.all false
set_option maxRecDepth 100000
set_option maxHeartbeats 4000000
/-! Own exceptions whose __init__ says super().__init__(text) and then stores its arguments. -/
namespace TkX
open PySem PySem.W PySem.Calls PyProof.Rows PySem.Spec
abbrev excO (C t : Addr) : Obj := { cls := .ref C, data := .fields #[.ref t, .none, .none, .none, .bool false, .none] }
/-- what the written part says of such a class at C, with its __init__ at fI -/
structure XTxt (P : Program) (K : Frag) (mg : Str → Option Value) (C fI cda cc : Addr) : Prop where
  cls : ∃ nm q N bs bm sn sub ab col dd k0 k1 k2 k3 k5, K.lookup C = some (excClassObj nm q C N bs bm true sn sub ab col dd k0 k1 k2 k3 k5 "ValueError.__new__") ∧ HandSPX.refsVE bm = true ∧ PX.refsVE bm = true
  sa : findIn K (.ref C) "__setattr__" = some (some (.builtin "object.__setattr__"))
  iC : findIn K (.ref C) "__init__" = some (some (.ref fI))
  tI : typeIn K (.ref fI) = some (.type "function")
  kC : keepIn K (.ref C) = true
  exC : subIn K (.ref C) (.type "BaseException") = some true
  veC : subIn K (.ref C) (.type "ValueError") = some true
  tyC : typeIn K (.ref C) = some (.type "type")
  slf : mroIn K C (.ref C) = some true
  sup : ks_superIn K C C "__init__" = some (some (.builtin "ValueError.__init__"))
  opq : nsIn K cStatics "thirdparty.any" = some none
  gsu : mg "super" = none
  cod : ∃ ccl cdd vs ccs file tf, K.lookup cda = some ⟨ccl, cdd, .fields vs, ccs⟩ ∧ vs[2]? = some (.str file tf) ∧ ((P.main.file : Str) == file) = true
  cel : ∃ cl cld csl, K.lookup cc = some ⟨cl, cld, .cell (some (.ref C)), csl⟩
  top : (P.main.scope.names.lookup ("super" : Str)).isSome = false
section
variable {prog : Program} {w : World} {A : Around} {E : Value → Shared → Prop} {s : Shared} {K : Frag} {mg mb : Str → Option Value} {C fI cda cc : Addr} {base : Heap}
/-- super().__init__(text) -/
theorem super_stmt (T : XTxt prog K mg C fI cda cc) {body : List Stmt} {q : Str} {scope : Scope} {L x t0 : Addr} {oc : Value} {od : Option Addr} {fd : FuncData} {osl : Array (Option Value)} {ar : Arg} {m : Str → Option Value} {p0 p1 p2 p3 p4 p5 : Pos} {txt : Str} {k : Nat} {pl : Sem Bool} {Q : Flow → Shared → Prop}
    (he : eval (.Call (.Attribute (.Call (.Name "super" p0) [] [] p1) "__init__" p2) [.Constant (.str txt) k p3] [] p4) (ksEnv q scope L fI (.ref cda) cc) = (do
      let ov ← attributeBase (.Call (.Name "super" p0) [] [] p1) "__init__" (ksEnv q scope L fI (.ref cda) cc) (eval (.Call (.Name "super" p0) [] [] p1) (ksEnv q scope L fI (.ref cda) cc))
      standAt p2.atName
      let (f, first) ← holding [ov] (getMethod ov "__init__" pl)
      callWith p4 f first (backTo p4 (starEach [.Constant (.str txt) k p3] (ksEnv q scope L fI (.ref cda) cc))) []))
    (X : K.In s.heap) (hg : s.heap.Ns mainGlobals mg) (hb : s.heap.Ns builtinsNs mb) (hbs : ∀ x : Str, x ≠ "__name__" → mb x = bootBuiltins x)
    (hf : K.lookup fI = some ⟨oc, od, .func fd, osl⟩) (hp : (fd.params.posonlyargs ++ fd.params.args).head? = some ar) (har : ar.arg = "self")
    (hn : s.heap.Ns L m) (hv : m "self" = some (.ref x)) (hx : s.heap.get? x = some (excO C t0))
    (hks : scope.names.lookup ("super" : Str) = some .globalImplicit) (hkc : scope.names.lookup ("__class__" : Str) = some .free) (hka : scope.names.lookup ("self" : Str) = some .local) (hk : scope.kind = .function)
    (hq : ∀ h' t1 tk, (∀ b o, b ≠ x → s.heap.get? b = some o → h'.get? b = some o) → h'.get? x = some (excO C t1) → Q .next { s with heap := h', toks := tk }) :
    _root_.PySem.wpAt (model prog w) A (.func body (ksEnv q scope L fI (.ref cda) cc)) (exec (.Expr (.Call (.Attribute (.Call (.Name "super" p0) [] [] p1) "__init__" p2) [.Constant (.str txt) k p3] [] p4) p5) (ksEnv q scope L fI (.ref cda) cc)) Q E s := by
  obtain ⟨nm, qn, N, bs, bm, sn, sub, ab, col, dd, k0, k1, k2, k3, k5, hC, hbm, hbm2⟩ := T.cls
  obtain ⟨ccl, cdd, vs, ccs, file, tf, hcode, hvs, hfile⟩ := T.cod
  obtain ⟨cl, cld, csl, hcell⟩ := T.cel
  have hcl : clsIn K C = some { name := nm, bases := bs, mro := .ref C :: bm, ns := N, qualname := qn, hasDict := true, slotNames := sn, subclasses := sub, abstract := ab, collection := col, hasDel := false } := by unfold clsIn; rw [hC] <;> rfl
  refine ks_wpAt_Expr_any ?_ (by simp [interactive, hk]) (by rfl)
  refine ks_wpAt_MethodCall (pl := pl) ?_ he
  obtain ⟨hh, g, d, t, os⟩ := s
  have hC1 : hh.get? C = some _ := X _ _ hC
  refine ks_wpAt_super_base (env := ksEnv q scope L fI (.ref cda) cc) hks hkc (by decide) rfl (X _ _ hf) rfl hp rfl (X _ _ hcode) rfl hvs hfile T.top ?_
  refine ks_loadName_global hk hks (loadGlobal_builtin (env := ksEnv q scope L fI (.ref cda) cc) hg T.gsu hb ((hbs _ (by decide +kernel)).trans (by first | rfl | decide +kernel)) ⟨rfl, ?_⟩)
  refine wpAny_loadName_free hk hkc rfl ⟨_, X _ _ hcell, rfl⟩ ?_
  rw [har]
  refine wpAny_loadName_local hk hka hn hv ?_
  refine ks_wpAny_isType_cls hC1 rfl ⟨rfl, ?_⟩
  refine ks_wpAny_call_super hC1 rfl hx rfl (fun c e => by cases e) (looks_mroIn X T.slf) (fun h1 e1 kk1 => ?_)
  have X1 : K.In h1 := X.keeps kk1
  have hx1 := kk1 _ _ hx
  have hm := T.sup
  unfold ks_superIn at hm
  rw [hcl] at hm
  have hI : Looks (model prog w) h1 (isInstance (.ref x) (.type "ValueError")) true := (InstAt.type (ox := excO C t0) (od := none) ⟨hx1, rfl, rfl, trivial⟩).andThen (looks_subIn X1 T.veC)
  have hxC : x ≠ C := fun z => by
    rw [z, hC1] at hx
    cases hx
  refine kxs_getMethod kxs_ValueError e1 (looks_opaque X1 T.opq) (l₀ := .ref C :: bm) (fun A Q E s k q => wpAny_bind ((looks_clsIn X1 hcl) A _ E s k (wpAny_pure q))) rfl X1 hm hI hxC (by decide) ?_
  have k2 : ∀ b o, h1.get? b = some o → (h1.push (kxs_mw "ValueError.__init__" x)).get? b = some o := fun b o e => Heap.get?_push_of_some _ e
  have hu : (h1.push (kxs_mw "ValueError.__init__" x)).get? h1.objs.size = some (kxs_mw "ValueError.__init__" x) := Heap.get?_push_at rfl rfl
  have X2 := X1.keeps k2
  have hx2 := k2 _ _ hx1
  refine kxs_callWith (i := "ValueError.__init__") (x := x) (by rfl) ?_
  refine evalArgs_plain ?_
  show wpAny _ _ (spliced ((false, eval (.Constant (.str txt) k p3) _) :: backTo p4 (starEach [] _))) _ _ _
  refine Calls.spliced_cons (Calls.Constant_str ?_)
  refine Calls.spliced_nil ⟨hu, ?_⟩
  refine wpAny_call (codeAny_of_tree ?_)
  show wpAny _ A.in1 (callAny (.ref h1.objs.size) ⟨[_], []⟩) _ _ _
  simp only [callAny]
  refine wpAny_bind (wpAny_load hu ?_)
  simp only [kxs_mw, show (Value.type "method-wrapper" == Value.type "method" || Value.type "method-wrapper" == Value.type "builtin_function_or_method" || Value.type "method-wrapper" == Value.type "method-wrapper") = true by decide, if_true]
  refine KFB.if_so (by decide) ?_
  refine wpAny_bind (check_bound_init PySem.F.excBase_ValueError.toExcCallFacts (X2 _ _ hC) hx2 rfl ?_)
  refine wpAny_bind (wpAny_pure (wpAny_pure ?_))
  refine ⟨plainId_quiet PySem.F.excBase_ValueError.init.plain _, codeAny_builtin PySem.F.excBase_ValueError.initEntry ?_⟩
  refine exc_init_tree (cls := .ref C) (t0 := t0) (dv := none) (c2 := .none) (c3 := .none) (b4 := .bool false) hx2 (by show 1 ≤ sizeLine; decide) fun h' k' e' t' => ?_
  exact hq h' _ _ (fun b o hb e => k' b o hb (k2 _ _ (kk1 _ _ e))) e'
/-- what __init__ leaves of a fresh exception at x -/
structure XEnd (h h' : Heap) (x C : Addr) (od : Option Addr) (nl : List (Str × Value)) : Prop where
  keep : ∀ b o, b ≠ x → h.get? b = some o → h'.get? b = some o
  obj : ∃ t1, h'.get? x = some { cls := .ref C, dict := od, data := .fields #[.ref t1, .none, .none, .none, .bool false, .none] }
  dct : match od with
    | none => nl = []
    | some dx => nl ≠ [] ∧ h.objs.size ≤ dx ∧ dx ≠ x ∧ h'.Ns1 dx (fun y => nl.lookup y)
theorem lookIn_ns' {h : Heap} {dx : Addr} {mA : Str → Option Value} (n : h.Ns1 dx mA) : ∃ od, h.get? dx = some od ∧ True := by
  obtain ⟨o, es, ep, ho, _⟩ := n
  exact ⟨o, ho, trivial⟩
theorem x_init1 (T : XTxt prog K mg C fI cda cc) {x t0 : Addr} {v : Value} {oc : Value} {od : Option Addr} {osl : Array (Option Value)} {qual f : Str} {params : Arguments} {scope : Scope} {dV kV doc pm ct : Value} {an : Option Addr} {R : Result → Shared → Prop} {args : Args}
    {p0 p1 p2 p3 p4 p5 q1 q2 q3 q4 : Pos} {txt : Str} {k : Nat} {ar : Arg}
    (hfn : K.lookup fI = some ⟨oc, od, .func (ksFn "__init__" qual params [.Expr (.Call (.Attribute (.Call (.Name "super" p0) [] [] p1) "__init__" p2) [.Constant (.str txt) k p3] [] p4) p5, .Assign [.Attribute (.Name "self" q1) f q2] (.Name f q3) q4] scope dV kV doc pm an (.ref cda) ct cc), osl⟩)
    (hcd : codeIn K (.ref cda) qual = true) (hno : findIn K (.ref C) f = some none)
    (hbind : BindsTo s (ksFn "__init__" qual params [.Expr (.Call (.Attribute (.Call (.Name "super" p0) [] [] p1) "__init__" p2) [.Constant (.str txt) k p3] [] p4) p5, .Assign [.Attribute (.Name "self" q1) f q2] (.Name f q3) q4] scope dV kV doc pm an (.ref cda) ct cc) args [("self", .ref x), (f, v)])
    (hp : (params.posonlyargs ++ params.args).head? = some ar) (har : ar.arg = "self")
    (hcell : ∀ x ∈ scope.names, x.2 ≠ .cell) (hlocf : scope.names.lookup f = some .local) (hfs : (f == ("self" : Str)) = false) (hfd : (f == ("__debug__" : Str)) = false)
    (hks : scope.names.lookup ("super" : Str) = some .globalImplicit) (hkc : scope.names.lookup ("__class__" : Str) = some .free) (hka : scope.names.lookup ("self" : Str) = some .local) (hk : scope.kind = .function) (hco : scope.isCoroutine = false) (hgen : scope.isGenerator = false)
    (hes : ∀ L, ∃ pl : Sem Bool, eval (.Call (.Attribute (.Call (.Name "super" p0) [] [] p1) "__init__" p2) [.Constant (.str txt) k p3] [] p4) (ksEnv qual scope L fI (.ref cda) cc) = (do
      let ov ← attributeBase (.Call (.Name "super" p0) [] [] p1) "__init__" (ksEnv qual scope L fI (.ref cda) cc) (eval (.Call (.Name "super" p0) [] [] p1) (ksEnv qual scope L fI (.ref cda) cc))
      standAt p2.atName
      let (f, first) ← holding [ov] (getMethod ov "__init__" pl)
      callWith p4 f first (backTo p4 (starEach [.Constant (.str txt) k p3] (ksEnv qual scope L fI (.ref cda) cc))) []))
    (X : K.In s.heap) (hg : s.heap.Ns mainGlobals mg) (hb : s.heap.Ns builtinsNs mb) (hbs : ∀ x : Str, x ≠ "__name__" → mb x = bootBuiltins x) (hlim : s.heap.NoLimit)
    (hx : s.heap.get? x = some (excO C t0)) (hnx : K.lookup x = none) (hroom : A.depth < recursionLimit)
    (hq : ∀ h' tk dx, XEnd s.heap h' x C (some dx) [(f, v)] → R (.ok (.ret .none)) { s with heap := h', toks := tk }) :
    codeAny (model prog w) A (.call (.ref fI) args) R s := by
  obtain ⟨nm, qn, N, bs, bm, sn, sub, ab, col, dd, k0, k1, k2, k3, k5, hC, hbm, hbm2⟩ := T.cls
  have hcl : clsIn K C = some { name := nm, bases := bs, mro := .ref C :: bm, ns := N, qualname := qn, hasDict := true, slotNames := sn, subclasses := sub, abstract := ab, collection := col, hasDel := false } := by unfold clsIn; rw [hC] <;> rfl
  refine ks_codeAny_call_defAt hroom (X _ _ hfn) rfl hlim (codeRec_of X hcd) rfl hbind hcell (fun y hy => ?_) (fun h₁ hns hk₁ => ?_) hco hgen hk
  · rcases List.mem_cons.mp hy with rfl | hy
    · exact hka
    · rcases List.mem_cons.mp hy with rfl | hy
      · exact hlocf
      · cases hy
  · obtain ⟨pl, he⟩ := hes s.heap.objs.size
    have X1 : K.In h₁ := X.keeps hk₁
    have hm1 : (fun y => ([("self", Value.ref x), (f, v)] : List (Str × Value)).reverse.lookup y) ("self" : Str) = some (.ref x) := by
      have hfs' : (("self" : Str) == f) = false := by rw [beq_eq_false_iff_ne] at hfs ⊢; exact fun z => hfs z.symm
      simp [List.lookup, hfs']
    have hm2 : (fun y => ([("self", Value.ref x), (f, v)] : List (Str × Value)).reverse.lookup y) f = some v := by simp [List.lookup]
    refine ks_wpAt_execs_cons ?_
    refine super_stmt (s := { s with heap := h₁, toks := s.toks + 2 }) T (m := fun y => ([("self", Value.ref x), (f, v)] : List (Str × Value)).reverse.lookup y) (pl := pl) he X1 (hg.keeps hk₁) (hb.keeps hk₁) hbs hfn hp har hns hm1 (hk₁ _ _ hx) hks hkc hka hk fun h2 t1 tk k2 e2 => ?_
    have hxL : s.heap.objs.size ≠ x := Nat.ne_of_gt (Heap.lt_size hx)
    have hns2 : h2.Ns s.heap.objs.size (fun y => ([("self", Value.ref x), (f, v)] : List (Str × Value)).reverse.lookup y) := by
      obtain ⟨o, es, ep, ho, r⟩ := hns
      exact ⟨o, es, ep, k2 _ _ hxL ho, r⟩
    have X2 : K.In h2 := fun a o e => k2 a o (fun z => by rw [z, hnx] at e; cases e) (X1 a o e)
    refine ks_wpAt_execs_cons (ks_wpAt_Assign_Attr ?_ (by rfl))
    refine wpAt_of_wpAny ?_
    refine wpAny_Name (wpAny_loadName_local (v := v) hk hlocf hns2 hm2 ?_) hfd
    refine wpAny_Name (wpAny_loadName_local (v := .ref x) hk hka hns2 hm1 ?_) (by decide)
    refine set_plain X2 (ox := excO C t1) (od := none) ⟨e2, rfl, rfl, trivial⟩ T.sa ?_
    refine HandSPX.exc_osa X2 e2 hcl (show HandSPX.refsVE (.ref C :: bm) = true from ?_) rfl hno (fun h₃ tk₃ dx k₃ dn dne hx₃ hn₃ => ?_)
    · exact hbm
    · refine wpAt_of_wpAny (wpAny_execs_nil ?_)
      have ln : s.heap.objs.size < h2.objs.size := hns2.lt
      refine hq h₃ tk₃ dx ⟨fun b o hb e => k₃ b o hb (k2 b o hb (hk₁ b o e)), ⟨t1, hx₃⟩, List.cons_ne_nil _ _, Nat.le_of_lt (Nat.lt_of_lt_of_le ln dn), dne, ?_⟩
      have e : (fun y => List.lookup y [(f, v)]) = fun y => if y = f then some v else none := by
        funext y
        by_cases hy : y = f
        · simp [List.lookup, hy]
        · have hy' : (y == f) = false := beq_eq_false_iff_ne.mpr hy
          simp [List.lookup, hy', hy]
      rw [e]
      exact hn₃
/-- no fields at all -/
theorem x_init0 (T : XTxt prog K mg C fI cda cc) {x t0 : Addr} {oc : Value} {od : Option Addr} {osl : Array (Option Value)} {qual : Str} {params : Arguments} {scope : Scope} {dV kV doc pm ct : Value} {an : Option Addr} {R : Result → Shared → Prop} {args : Args}
    {p0 p1 p2 p3 p4 p5 : Pos} {txt : Str} {k : Nat} {ar : Arg}
    (hfn : K.lookup fI = some ⟨oc, od, .func (ksFn "__init__" qual params [.Expr (.Call (.Attribute (.Call (.Name "super" p0) [] [] p1) "__init__" p2) [.Constant (.str txt) k p3] [] p4) p5] scope dV kV doc pm an (.ref cda) ct cc), osl⟩)
    (hcd : codeIn K (.ref cda) qual = true)
    (hbind : BindsTo s (ksFn "__init__" qual params [.Expr (.Call (.Attribute (.Call (.Name "super" p0) [] [] p1) "__init__" p2) [.Constant (.str txt) k p3] [] p4) p5] scope dV kV doc pm an (.ref cda) ct cc) args [("self", .ref x)])
    (hp : (params.posonlyargs ++ params.args).head? = some ar) (har : ar.arg = "self") (hcell : ∀ x ∈ scope.names, x.2 ≠ .cell)
    (hks : scope.names.lookup ("super" : Str) = some .globalImplicit) (hkc : scope.names.lookup ("__class__" : Str) = some .free) (hka : scope.names.lookup ("self" : Str) = some .local) (hk : scope.kind = .function) (hco : scope.isCoroutine = false) (hgen : scope.isGenerator = false)
    (hes : ∀ L, ∃ pl : Sem Bool, eval (.Call (.Attribute (.Call (.Name "super" p0) [] [] p1) "__init__" p2) [.Constant (.str txt) k p3] [] p4) (ksEnv qual scope L fI (.ref cda) cc) = (do
      let ov ← attributeBase (.Call (.Name "super" p0) [] [] p1) "__init__" (ksEnv qual scope L fI (.ref cda) cc) (eval (.Call (.Name "super" p0) [] [] p1) (ksEnv qual scope L fI (.ref cda) cc))
      standAt p2.atName
      let (f, first) ← holding [ov] (getMethod ov "__init__" pl)
      callWith p4 f first (backTo p4 (starEach [.Constant (.str txt) k p3] (ksEnv qual scope L fI (.ref cda) cc))) []))
    (X : K.In s.heap) (hg : s.heap.Ns mainGlobals mg) (hb : s.heap.Ns builtinsNs mb) (hbs : ∀ x : Str, x ≠ "__name__" → mb x = bootBuiltins x) (hlim : s.heap.NoLimit)
    (hx : s.heap.get? x = some (excO C t0)) (hnx : K.lookup x = none) (hroom : A.depth < recursionLimit)
    (hq : ∀ h' tk, XEnd s.heap h' x C none [] → R (.ok (.ret .none)) { s with heap := h', toks := tk }) :
    codeAny (model prog w) A (.call (.ref fI) args) R s := by
  refine ks_codeAny_call_defAt hroom (X _ _ hfn) rfl hlim (codeRec_of X hcd) rfl hbind hcell (fun y hy => ?_) (fun h₁ hns hk₁ => ?_) hco hgen hk
  · rcases List.mem_cons.mp hy with rfl | hy
    · exact hka
    · cases hy
  · obtain ⟨pl, he⟩ := hes s.heap.objs.size
    have X1 : K.In h₁ := X.keeps hk₁
    have hm1 : (fun y => ([("self", Value.ref x)] : List (Str × Value)).reverse.lookup y) ("self" : Str) = some (.ref x) := by simp [List.lookup]
    refine ks_wpAt_execs_cons ?_
    refine super_stmt (s := { s with heap := h₁, toks := s.toks + 1 }) T (m := fun y => ([("self", Value.ref x)] : List (Str × Value)).reverse.lookup y) (pl := pl) he X1 (hg.keeps hk₁) (hb.keeps hk₁) hbs hfn hp har hns hm1 (hk₁ _ _ hx) hks hkc hka hk fun h2 t1 tk k2 e2 => ?_
    refine wpAt_of_wpAny (wpAny_execs_nil ?_)
    exact hq h2 tk ⟨fun b o hb e => k2 b o hb (hk₁ b o e), ⟨t1, e2⟩, rfl⟩
theorem x_init2 (T : XTxt prog K mg C fI cda cc) {x t0 : Addr} {v v2 : Value} {oc : Value} {od : Option Addr} {osl : Array (Option Value)} {qual f f2 : Str} {params : Arguments} {scope : Scope} {dV kV doc pm ct : Value} {an : Option Addr} {R : Result → Shared → Prop} {args : Args}
    {p0 p1 p2 p3 p4 p5 q1 q2 q3 q4 r1 r2 r3 r4 : Pos} {txt : Str} {k : Nat} {ar : Arg}
    (hfn : K.lookup fI = some ⟨oc, od, .func (ksFn "__init__" qual params [.Expr (.Call (.Attribute (.Call (.Name "super" p0) [] [] p1) "__init__" p2) [.Constant (.str txt) k p3] [] p4) p5, .Assign [.Attribute (.Name "self" q1) f q2] (.Name f q3) q4, .Assign [.Attribute (.Name "self" r1) f2 r2] (.Name f2 r3) r4] scope dV kV doc pm an (.ref cda) ct cc), osl⟩)
    (hcd : codeIn K (.ref cda) qual = true) (hno : findIn K (.ref C) f = some none) (hno2 : findIn K (.ref C) f2 = some none)
    (hbind : BindsTo s (ksFn "__init__" qual params [.Expr (.Call (.Attribute (.Call (.Name "super" p0) [] [] p1) "__init__" p2) [.Constant (.str txt) k p3] [] p4) p5, .Assign [.Attribute (.Name "self" q1) f q2] (.Name f q3) q4, .Assign [.Attribute (.Name "self" r1) f2 r2] (.Name f2 r3) r4] scope dV kV doc pm an (.ref cda) ct cc) args [("self", .ref x), (f, v), (f2, v2)])
    (hp : (params.posonlyargs ++ params.args).head? = some ar) (har : ar.arg = "self")
    (hcell : ∀ x ∈ scope.names, x.2 ≠ .cell) (hlocf : scope.names.lookup f = some .local) (hfs : (f == ("self" : Str)) = false) (hfd : (f == ("__debug__" : Str)) = false) (hlocf2 : scope.names.lookup f2 = some .local) (hfs2 : (f2 == ("self" : Str)) = false) (hfd2 : (f2 == ("__debug__" : Str)) = false) (hff : (f2 == f) = false)
    (hks : scope.names.lookup ("super" : Str) = some .globalImplicit) (hkc : scope.names.lookup ("__class__" : Str) = some .free) (hka : scope.names.lookup ("self" : Str) = some .local) (hk : scope.kind = .function) (hco : scope.isCoroutine = false) (hgen : scope.isGenerator = false)
    (hes : ∀ L, ∃ pl : Sem Bool, eval (.Call (.Attribute (.Call (.Name "super" p0) [] [] p1) "__init__" p2) [.Constant (.str txt) k p3] [] p4) (ksEnv qual scope L fI (.ref cda) cc) = (do
      let ov ← attributeBase (.Call (.Name "super" p0) [] [] p1) "__init__" (ksEnv qual scope L fI (.ref cda) cc) (eval (.Call (.Name "super" p0) [] [] p1) (ksEnv qual scope L fI (.ref cda) cc))
      standAt p2.atName
      let (f, first) ← holding [ov] (getMethod ov "__init__" pl)
      callWith p4 f first (backTo p4 (starEach [.Constant (.str txt) k p3] (ksEnv qual scope L fI (.ref cda) cc))) []))
    (X : K.In s.heap) (hg : s.heap.Ns mainGlobals mg) (hb : s.heap.Ns builtinsNs mb) (hbs : ∀ x : Str, x ≠ "__name__" → mb x = bootBuiltins x) (hlim : s.heap.NoLimit)
    (hx : s.heap.get? x = some (excO C t0)) (hnx : K.lookup x = none) (hroom : A.depth < recursionLimit)
    (hq : ∀ h' tk dx, XEnd s.heap h' x C (some dx) [(f, v), (f2, v2)] → R (.ok (.ret .none)) { s with heap := h', toks := tk }) :
    codeAny (model prog w) A (.call (.ref fI) args) R s := by
  obtain ⟨nm, qn, N, bs, bm, sn, sub, ab, col, dd, k0, k1, k2, k3, k5, hC, hbm, hbm2⟩ := T.cls
  have hcl : clsIn K C = some { name := nm, bases := bs, mro := .ref C :: bm, ns := N, qualname := qn, hasDict := true, slotNames := sn, subclasses := sub, abstract := ab, collection := col, hasDel := false } := by unfold clsIn; rw [hC] <;> rfl
  refine ks_codeAny_call_defAt hroom (X _ _ hfn) rfl hlim (codeRec_of X hcd) rfl hbind hcell (fun y hy => ?_) (fun h₁ hns hk₁ => ?_) hco hgen hk
  · rcases List.mem_cons.mp hy with rfl | hy
    · exact hka
    · rcases List.mem_cons.mp hy with rfl | hy
      · exact hlocf
      · rcases List.mem_cons.mp hy with rfl | hy
        · exact hlocf2
        · cases hy
  · obtain ⟨pl, he⟩ := hes s.heap.objs.size
    have X1 : K.In h₁ := X.keeps hk₁
    have hm1 : (fun y => ([("self", Value.ref x), (f, v), (f2, v2)] : List (Str × Value)).reverse.lookup y) ("self" : Str) = some (.ref x) := by
      have hfs' : (("self" : Str) == f) = false := by rw [beq_eq_false_iff_ne] at hfs ⊢; exact fun z => hfs z.symm
      have hfs2' : (("self" : Str) == f2) = false := by rw [beq_eq_false_iff_ne] at hfs2 ⊢; exact fun z => hfs2 z.symm
      simp [List.lookup, hfs', hfs2']
    have hm2 : (fun y => ([("self", Value.ref x), (f, v), (f2, v2)] : List (Str × Value)).reverse.lookup y) f = some v := by
      have hff' : (f == f2) = false := by rw [beq_eq_false_iff_ne] at hff ⊢; exact fun z => hff z.symm
      simp [List.lookup, hff']
    have hm3 : (fun y => ([("self", Value.ref x), (f, v), (f2, v2)] : List (Str × Value)).reverse.lookup y) f2 = some v2 := by simp [List.lookup]
    refine ks_wpAt_execs_cons ?_
    refine super_stmt (s := { s with heap := h₁, toks := s.toks + 3 }) T (m := fun y => ([("self", Value.ref x), (f, v), (f2, v2)] : List (Str × Value)).reverse.lookup y) (pl := pl) he X1 (hg.keeps hk₁) (hb.keeps hk₁) hbs hfn hp har hns hm1 (hk₁ _ _ hx) hks hkc hka hk fun h2 t1 tk k2 e2 => ?_
    have hxL : s.heap.objs.size ≠ x := Nat.ne_of_gt (Heap.lt_size hx)
    have hns2 : h2.Ns s.heap.objs.size (fun y => ([("self", Value.ref x), (f, v), (f2, v2)] : List (Str × Value)).reverse.lookup y) := by
      obtain ⟨o, es, ep, ho, r⟩ := hns
      exact ⟨o, es, ep, k2 _ _ hxL ho, r⟩
    have X2 : K.In h2 := fun a o e => k2 a o (fun z => by rw [z, hnx] at e; cases e) (X1 a o e)
    refine ks_wpAt_execs_cons (ks_wpAt_Assign_Attr ?_ (by rfl))
    refine wpAt_of_wpAny ?_
    refine wpAny_Name (wpAny_loadName_local (v := v) hk hlocf hns2 hm2 ?_) hfd
    refine wpAny_Name (wpAny_loadName_local (v := .ref x) hk hka hns2 hm1 ?_) (by decide)
    refine set_plain X2 (ox := excO C t1) (od := none) ⟨e2, rfl, rfl, trivial⟩ T.sa ?_
    refine HandSPX.exc_osa X2 e2 hcl (show HandSPX.refsVE (.ref C :: bm) = true from ?_) rfl hno (fun h₃ tk₃ dx k₃ dn dne hx₃ hn₃ => ?_)
    · exact hbm
    · have hns3 : h₃.Ns s.heap.objs.size (fun y => ([("self", Value.ref x), (f, v), (f2, v2)] : List (Str × Value)).reverse.lookup y) := by
        obtain ⟨o, es, ep, ho, r⟩ := hns2
        exact ⟨o, es, ep, k₃ _ _ hxL ho, r⟩
      have X3 : K.In h₃ := fun a o e => k₃ a o (fun z => by rw [z, hnx] at e; cases e) (X2 a o e)
      have ln : s.heap.objs.size < h2.objs.size := hns2.lt
      refine wpAt_of_wpAny (wpAny_execs_cons (plainObj_wpAny_Assign_Attribute ?_ (by rfl)))
      refine wpAny_Name (wpAny_loadName_local (v := v2) hk hlocf2 hns3 hm3 ?_) hfd2
      refine wpAny_Name (wpAny_loadName_local (v := .ref x) hk hka hns3 hm1 ?_) (by decide)
      obtain ⟨oD, hoD, _⟩ := lookIn_ns' hn₃
      refine set_plain X3 (od := some oD) ⟨hx₃, rfl, rfl, hoD⟩ T.sa ?_
      refine PX.osa_old X3 hx₃ hn₃ (nl := [f]) (fun y hy => ?_) (by show 1 ≤ 1000; decide) hcl (show PX.refsVE (.ref C :: bm) = true from hbm2) rfl hno2 (fun h4 tk4 k4 hn4 => ?_)
      · by_cases z : y = f
        · rw [z]; exact List.mem_cons_self
        · exact absurd (if_neg z) hy
      · refine wpAny_execs_nil ?_
        have dnx : x ≠ dx := dne.symm
        refine hq h4 tk4 dx ⟨fun b o hb e => k4 b o (fun z => ?_) (k₃ b o hb (k2 b o hb (hk₁ b o e))), ⟨t1, k4 _ _ dnx hx₃⟩, List.cons_ne_nil _ _, Nat.le_of_lt (Nat.lt_of_lt_of_le ln dn), dne, ?_⟩
        · have lb := Heap.lt_size e
          rw [z] at lb
          exact absurd (Nat.lt_trans lb (Nat.lt_of_lt_of_le ln dn)) (Nat.lt_irrefl _)
        · have e : (fun y => List.lookup y [(f, v), (f2, v2)]) = fun y => if y = f2 then some v2 else if y = f then some v else none := by
            funext y
            by_cases hy : y = f
            · have hy2 : ¬ y = f2 := fun z => by
                rw [beq_eq_false_iff_ne] at hff
                exact hff (z.symm.trans hy)
              simp [List.lookup, hy, hy2]
              intro z
              exact absurd (hy.trans z) hy2
            · have hy' : (y == f) = false := beq_eq_false_iff_ne.mpr hy
              by_cases hy2 : y = f2
              · simp [List.lookup, hy', hy2]
                have : (f2 == f) = false := hff
                simp [this]
              · have hy2' : (y == f2) = false := beq_eq_false_iff_ne.mpr hy2
                simp [List.lookup, hy', hy2', hy, hy2]
          rw [e]
          exact hn4
end
end TkX
end
section
set_option linter.all false
set_option maxRecDepth 100000
set_option maxHeartbeats 4000000
namespace TkX
open PySem PySem.W PySem.Calls PyProof.Rows PySem.Spec
/-- what calling __init__ of such a class does -/
def XInit (P : Program) (w : World) (K : Frag) (mg : Str → Option Value) (C fI : Addr) (fs : List Str) : Prop :=
  ∀ (A : Around) (s : Shared) (mb : Str → Option Value) (x t0 : Addr) (vs : List Value) (R : Result → Shared → Prop), vs.length = fs.length → K.In s.heap → s.heap.Ns mainGlobals mg → s.heap.Ns builtinsNs mb →
    (∀ y : Str, y ≠ "__name__" → mb y = bootBuiltins y) → s.heap.NoLimit → s.heap.get? x = some (excO C t0) → K.lookup x = none → A.depth < recursionLimit →
    (∀ h' tk od, XEnd s.heap h' x C od (fs.zip vs) → R (.ok (.ret .none)) { s with heap := h', toks := tk }) → codeAny (model P w) A (.call (.ref fI) ⟨.ref x :: vs, []⟩) R s
/-- such a class, as the rules want it -/
structure XCls (P : Program) (w : World) (K : Frag) (mg : Str → Option Value) (nm : Str) (C : Addr) (fs : List Str) : Prop where
  gC : mg nm = some (.ref C)
  cls : ∃ nm q N bs bm sn sub ab col dd k0 k1 k2 k3 k5, K.lookup C = some (excClassObj nm q C N bs bm true sn sub ab col dd k0 k1 k2 k3 k5 "ValueError.__new__") ∧ HandSPX.refsVE bm = true
  ini : ∃ fI, findIn K (.ref C) "__init__" = some (some (.ref fI)) ∧ typeIn K (.ref fI) = some (.type "function") ∧ XInit P w K mg C fI fs
  kC : keepIn K (.ref C) = true
  exC : subIn K (.ref C) (.type "BaseException") = some true
  tyC : typeIn K (.ref C) = some (.type "type")
  hdC : hasDictIn K C = true
  ga : findIn K (.ref C) "__getattribute__" = some (some (.builtin "BaseException.__getattribute__"))
  gg : findIn K (.ref C) "__getattr__" = some none
  ca : findIn K (.ref C) "__class__" = some (some (.builtin "object.__class__"))
  cn : specialIn K (.builtin "object.__class__") "__get__" = some (some (.builtin "getset_descriptor.__get__"))
  ct : takesIn K (.builtin "object.__class__") = some true
  cm : mroIn K C (.type "object") = some true
  no : ∀ f ∈ fs, findIn K (.ref C) f = some none
/-- a made one -/
structure XMade (h h' : Heap) (e C : Addr) (od : Option Addr) (nl : List (Str × Value)) : Prop where
  keep : ∀ b o, h.get? b = some o → h'.get? b = some o
  new : h.objs.size ≤ e
  obj : ∃ oe vs, h'.get? e = some oe ∧ oe.cls = .ref C ∧ oe.dict = od ∧ oe.data = .fields vs ∧ vs[1]? = some .none
  dct : match od with
    | none => nl = []
    | some d => nl ≠ [] ∧ h.objs.size ≤ d ∧ d ≠ e ∧ h'.Ns1 d (fun y => nl.lookup y)
section
variable {P : Program} {w : World} {A : Around} {R : Result → Shared → Prop} {s : Shared} {K : Frag} {mg mb : Str → Option Value} {C : Addr} {nm : Str} {fs : List Str}
theorem x_made (T : XCls P w K mg nm C fs) {vs : List Value} (hl : vs.length = fs.length) (hsz : vs.length ≤ 100) (X : K.In s.heap) (hg : s.heap.Ns mainGlobals mg) (hb : s.heap.Ns builtinsNs mb) (hbs : ∀ y : Str, y ≠ "__name__" → mb y = bootBuiltins y) (hlim : s.heap.NoLimit) (hroom : A.depth + 1 < recursionLimit)
    (hq : ∀ h' tk e d, XMade s.heap h' e C d (fs.zip vs) → R (.ok (.ret (.ref e))) { s with heap := h', toks := tk }) :
    codeAny (model P w) A (.call (.ref C) ⟨vs, []⟩) R s := by
  obtain ⟨nm', q, N, bs, bm, sn, sub, ab, col, dd, k0, k1, k2, k3, k5, hC, hbm⟩ := T.cls
  obtain ⟨fI, iC, tI, init⟩ := T.ini
  obtain ⟨hp, g, dr, tk, os⟩ := s
  have k : ∀ b o, hp.get? b = some o → ((hp.push (kdv_tup vs)).push (excO C hp.objs.size)).get? b = some o := fun b o e => Heap.get?_push_of_some _ (Heap.get?_push_of_some _ e)
  have hget : ((hp.push (kdv_tup vs)).push (excO C hp.objs.size)).get? (hp.objs.size + 1) = some (excO C hp.objs.size) := by heap_get
  have hnx : K.lookup (hp.objs.size + 1) = none := by
    cases e : K.lookup (hp.objs.size + 1) with
    | none => rfl
    | some o =>
      have z : hp.get? (hp.objs.size + 1) = some o := X _ _ e
      exact absurd (Nat.lt_of_succ_lt (Heap.lt_size z)) (Nat.lt_irrefl _)
  refine HandSPX.call_own PySem.F.excBase_ValueError (fun X => HandSPX.refsVE_contains X bm hbm) (X _ _ hC) (looks_findIn X iC) (fun self => bind_fn X self tI) (by rw [sizeLine_eq]; omega) ?_
  refine init _ ⟨(hp.push (kdv_tup vs)).push (excO C hp.objs.size), g, dr, tk, os⟩ mb (hp.objs.size + 1) hp.objs.size vs _ hl (X.keeps k) (hg.keeps k) (hb.keeps k) hbs (hlim.keeps k) hget hnx ?_ fun h' tk' od ⟨k', hx, hd⟩ => ?_
  · show A.depth + 1 < recursionLimit
    exact hroom
  · have old : ∀ b o, hp.get? b = some o → h'.get? b = some o := fun b o e => k' b o (Nat.ne_of_lt (Nat.lt_succ_of_lt (Heap.lt_size e))) (k b o e)
    obtain ⟨t1, hx⟩ := hx
    refine ⟨rfl, hq h' tk' (hp.objs.size + 1) od ⟨old, Nat.le_succ _, ⟨_, _, hx, rfl, rfl, rfl, rfl⟩, ?_⟩⟩
    cases od with
    | none => exact hd
    | some dx =>
      obtain ⟨nn, dn, dne, hns⟩ := hd
      have z : hp.objs.size + 1 + 1 ≤ dx := by
        first
          | (simpa only [Heap.size_push] using dn)
          | exact dn
          | (have q := dn; rw [Heap.size_push, Heap.size_push] at q; exact q)
      exact ⟨nn, Nat.le_trans (Nat.le_trans (Nat.le_succ _) (Nat.le_succ _)) z, dne, hns⟩
end
end TkX
namespace L2
open PySem PySem.Spec PyProof.Rows TkX
/-- an exception object of the class cls with the own dict d, at a -/
def XO (cls : Value) (d : Option Addr) (a : Addr) : HO := .ext fun h => ∃ (oe : Obj) (vs : Array Value), h.get? a = some oe ∧ Zc cls d oe ∧ oe.data = .fields vs
theorem xo_ok {P : Program} {w : World} {H : Hp} {h : Heap} {a : Addr} {cls : Value} {d : Option Addr} {oe : Obj} {vs : Array Value} (e : h.get? a = some oe) (z : Zc cls d oe) (hd : oe.data = .fields vs) : ObjOk P w H h a (XO cls d a) :=
  ⟨⟨oe, vs, e, z, hd⟩, ⟨oe, e⟩, fun _ _ ⟨o, v, q, r⟩ k => ⟨o, v, k o q, r⟩⟩
theorem relO_zip : ∀ {fs : List Str} {vs : List V} {us : List Value}, Vals vs us → ∀ f, RelO ((fs.zip vs).lookup f) ((fs.zip us).lookup f)
  | [], _, _, _, _ => trivial
  | _ :: _, _, _, .nil, _ => trivial
  | g :: fs, _, _, .cons r rs, f => by
    rw [List.zip_cons_cons, List.zip_cons_cons]
    by_cases hf : (f == g) = true
    · simp only [List.lookup, hf]
      exact r
    · have hf : (f == g) = false := by simpa using hf
      simp only [List.lookup, hf]
      exact relO_zip rs f
/-- what reading a field asks of the class -/
abbrev XRd (K : PySem.W.Frag) (C : Addr) : Prop := XfC K C
/-- what isinstance asks of the class -/
structure XIs (K : PySem.W.Frag) (C : Addr) : Prop where
  cl : (PySem.W.clsIn K C).isSome = true
  ga : PySem.W.findIn K (.ref C) "__getattribute__" = some (some (.builtin "BaseException.__getattribute__"))
  gg : PySem.W.findIn K (.ref C) "__getattr__" = some none
  exC : PySem.W.subIn K (.ref C) (.type "BaseException") = some true
  ca : PySem.W.findIn K (.ref C) "__class__" = some (some (.builtin "object.__class__"))
  cn : PySem.W.specialIn K (.builtin "object.__class__") "__get__" = some (some (.builtin "getset_descriptor.__get__"))
  ct : PySem.W.takesIn K (.builtin "object.__class__") = some true
  cm : PySem.W.mroIn K C (.type "object") = some true
theorem XCls.rd {P : Program} {w : World} {K : PySem.W.Frag} {mg : Str → Option Value} {nm : Str} {C : Addr} {fs : List Str} (T : XCls P w K mg nm C fs) : XRd K C := ⟨T.ga, T.gg, T.exC, T.hdC⟩
theorem XCls.is {P : Program} {w : World} {K : PySem.W.Frag} {mg : Str → Option Value} {nm : Str} {C : Addr} {fs : List Str} (T : XCls P w K mg nm C fs) : XIs K C := by
  obtain ⟨nm', q, N, bs, bm, sn, sub, ab, col, dd, k0, k1, k2, k3, k5, hC, hbm⟩ := T.cls
  exact ⟨by unfold PySem.W.clsIn; rw [hC] <;> rfl, T.ga, T.gg, T.exC, T.ca, T.cn, T.ct, T.cm⟩
/-- X(e, ..): where the fields lie -/
def XDict (C : Addr) (fs : List Str) (vs : List V) (H : Hp) (Q : XK) : Prop := match fs with
  | [] => Q (.ref C) none H
  | _ => ∀ d, H d = none → Q (.ref C) (some d) (upd H d (.xd (fs.zip vs)))
def tMkX (C : Addr) (fs : List Str) (ta : TA) : St → Hp → XK → Prop := fun σ H Q => ta σ H fun vs H1 => vs.length = fs.length ∧ XDict C fs vs H1 Q
section
variable {X : Cx} {C : Addr} {nm : Str} {fs : List Str}
theorem Inv.pmod {pins : List (Addr × Obj)} {σ : St} {H : Hp} {s : Shared} (I : Inv X pins σ H s) : s.heap.Ns mainGlobals X.mg ∧ ∃ mb, s.heap.Ns builtinsNs mb ∧ ∀ x : Str, x ≠ "__name__" → mb x = bootBuiltins x := by
  obtain ⟨mb, h1, h2⟩ := I.mod.blt
  exact ⟨I.mod.glob.keeps I.bk, mb, h1.keeps I.bk, h2⟩
theorem pmk_x {a : Expr} {as : List Expr} {ta : TA} {p pos : Pos} {k : Nat} (T : XCls X.prog X.w X.K X.mg nm C fs) (hr : Room k X.A) (ha : PA X (a :: as) ta) (hg : Gl X nm := by rfl) (hdb : (nm == ("__debug__" : Str)) = false := by decide) (hsz : fs.length ≤ 100 := by decide)
    (he : starEach (a :: as) X.env = (false, eval a X.env) :: starEach as X.env := by rfl) (hpl : (backTo pos (starEach as X.env)).any (·.1) = false := by rfl) :
    PMk X (.Call (.Name nm p) (a :: as) [] pos) (tMkX C fs ta) := by
  intro pins s σ H Q I h
  refine wpAny_Call_Name_kw (ld_glob I hg T.gC ?_ hdb)
  refine PySem.W.callWith_K (h₀ := X.base) I.ok.mod.kin T.kC (thn (ha.run pos pins s σ H _ I h) fun us s1 hh => ?_) he hpl
  obtain ⟨vs, H1, I1, r1, ev, q1⟩ := hh
  refine ⟨I1.kIn, ?_⟩
  have hlim := I1.nolimit
  obtain ⟨hgl, mb, hbl, hbs⟩ := I1.pmod
  have hl : us.length = fs.length := r1.length.symm.trans ev
  obtain ⟨hp, g, dr, tk, os⟩ := s1
  refine wpAny_call (x_made T hl (hl ▸ hsz) I1.kIn hgl hbl hbs hlim (by have := hr.dp; omega) fun h' tk' e od M => ?_)
  show MkP X pins σ Q (.ref e) ⟨h', g, dr, tk', os⟩
  obtain ⟨oe, fv, hoe, hc, hd, hdat, h1⟩ := M.obj
  obtain ⟨G', g1, g2⟩ := restrict h' fun b => decide (b ≠ e)
  have gk : ∀ b, b ≠ e → G'.get? b = h'.get? b := fun b hb => g1 b (decide_eq_true hb)
  have ge : G'.get? e = none := g2 e (by simp)
  have old : ∀ b o, hp.get? b = some o → G'.get? b = some o := fun b o q => (gk b (Nat.ne_of_lt (Nat.lt_of_lt_of_le (Heap.lt_size q) M.new))).trans (M.keep b o q)
  have keep2 : ∀ b o, G'.get? b = some o → h'.get? b = some o := fun b o q => by
    by_cases hb : b = e
    · have q' : G'.get? b = some o := q
      rw [hb, ge] at q'; cases q'
    · exact (gk b hb).symm.trans q
  have md := M.dct
  cases od with
  | none =>
    have nl : fs.zip us = [] := md
    have fs0 : fs = [] := by
      cases fs with
      | nil => rfl
      | cons f fs =>
        cases us with
        | nil => cases hl
        | cons u us => cases nl
    subst fs0
    have q2 : Q (.ref C) none H1 := q1
    have J : Inv X pins σ H1 ⟨G', g, dr, tk', os⟩ := I1.kept (t' := tk') old
    exact ⟨e, oe, fv, ⟨G', g, dr, tk', os⟩, H1, .ref C, none, rfl, J, keep2, ge, hoe, ⟨hc, hd⟩, hdat, h1, I1.hok.fresh M.new, rfl, I1.bare, raises_own T.exC T.tyC, q2⟩
  | some d =>
    obtain ⟨nn, dbig, dne, hns⟩ := md
    have ob : ObjOk X.prog X.w (upd H1 d (.xd (fs.zip vs))) G' d (.xd (fs.zip vs)) :=
      ⟨_, hns.at (fun o q => (gk d dne).trans q), fun f => relO_zip r1 f⟩
    have J : Inv X pins σ (upd H1 d (.xd (fs.zip vs))) ⟨G', g, dr, tk', os⟩ := I1.laid (t' := tk') old dbig ob
    have hd1 : H1 d = none := I1.hok.fresh dbig
    have q2 : Q (.ref C) (some d) (upd H1 d (.xd (fs.zip vs))) := by
      cases fs with
      | nil => exact absurd rfl nn
      | cons f fs => exact q1 d hd1
    refine ⟨e, oe, fv, ⟨G', g, dr, tk', os⟩, _, .ref C, some d, rfl, J, keep2, ge, hoe, ⟨hc, hd⟩, hdat, h1, ?_, rfl, I1.bare, raises_own T.exC T.tyC, q2⟩
    rw [upd_ne (Ne.symm dne)]
    exact I1.hok.fresh M.new
/-- raise X(e, ..) -/
def tRaiseX (C : Addr) (fs : List Str) (W : WX) (ta : TA) : TS := fun _ σ H => tMkX C fs ta σ H fun cls d H' => W cls d σ H'
theorem ps_raiseX {a : Expr} {as : List Expr} {ta : TA} {W : WX} {p pos pos2 : Pos} {k : Nat} (T : XCls X.prog X.w X.K X.mg nm C fs) (hc : X.calm = true) (hr : Room k X.A) (tk : Takes X W) (ha : PA X (a :: as) ta) (hg : Gl X nm := by rfl) (hdb : (nm == ("__debug__" : Str)) = false := by decide) (hsz : fs.length ≤ 100 := by decide)
    (he : starEach (a :: as) X.env = (false, eval a X.env) :: starEach as X.env := by rfl) (hpl : (backTo pos (starEach as X.env)).any (·.1) = false := by rfl) :
    PS X (.Raise (some (.Call (.Name nm p) (a :: as) [] pos)) none pos2) (tRaiseX C fs W ta) := ps_raise hc tk (pmk_x T hr ha hg hdb hsz he hpl)
/-- e.f of a held exception -/
def tXFld (K : PySem.W.Frag) (f : Str) (te : TE) : TE := fun σ H Q => te σ H fun x H1 => ∃ (a C d : Addr) (fs : List (Str × V)) (v : V), x = .ref a ∧ H1 a = some (XO (.ref C) (some d) a) ∧ H1 d = some (.xd fs) ∧ XRd K C ∧ PySem.W.findIn K (.ref C) f = some none ∧ fs.lookup f = some v ∧ Q v H1
/-- a held exception is an instance of its class, its dict's names as tracked -/
theorem held_names {a C d : Addr} {fs : List (Str × V)} {pins : List (Addr × Obj)} {σ : St} {H : Hp} {s : Shared} (I : Inv X pins σ H s) (ha : H a = some (XO (.ref C) (some d) a)) (hf : H d = some (.xd fs)) :
    ∃ oe od, PySem.W.InstAt s.heap a oe C (some od) ∧ ∀ f v, fs.lookup f = some v → ∃ u, PySem.W.lookIn f od = some (some u) ∧ RelV v u := by
  obtain ⟨⟨oe, vs, at_, shape, data⟩, _, _⟩ := I.hok a _ ha
  obtain ⟨m, ns, rel⟩ := (show ObjOk X.prog X.w H s.heap d (.xd fs) from I.hok d _ hf)
  obtain ⟨od, there, look⟩ := lookIn_ns ns
  refine ⟨oe, od, ⟨at_, shape.1, by simp only [PySem.W.notCls, data], by rw [shape.2]; exact there⟩, fun f v l => ?_⟩
  obtain ⟨u, e, r⟩ := RelO.some_of (v := v) (o := m f) (l ▸ rel f)
  exact ⟨u, (look f).trans (congrArg some e), r⟩
theorem held_inst {a C : Addr} {d : Option Addr} {pins : List (Addr × Obj)} {σ : St} {H : Hp} {s : Shared} (I : Inv X pins σ H s) (ha : H a = some (XO (.ref C) d a)) (hd : ∀ b, d = some b → ∃ fs, H b = some (.xd fs)) : ∃ oe od, PySem.W.InstAt s.heap a oe C od := by
  rcases d with _ | b
  · obtain ⟨⟨oe, vs, at_, shape, data⟩, _, _⟩ := I.hok a _ ha
    exact ⟨oe, none, at_, shape.1, by simp only [PySem.W.notCls, data], by rw [shape.2]; trivial⟩
  · obtain ⟨fs, hf⟩ := hd b rfl
    obtain ⟨oe, od, J, _⟩ := held_names I ha hf
    exact ⟨oe, some od, J⟩
theorem pe_xFld {e : Expr} {te : TE} {pos : Pos} {f : Str} (he : PE X e te) (hb : attributeBase e f X.env (eval e X.env) = eval e X.env := by rfl) : PE X (.Attribute e f pos) (tXFld X.K f te) :=
  ⟨fun pins s σ H Q I h => attr_of hb (thn (he.run pins s σ H _ I h) fun u s1 ⟨x, H1, I1, rx, a, C, d, fs, v, ex, ha, hf, T, own, l, q⟩ => by
    cases ex
    cases (show u = Value.ref a from rx)
    obtain ⟨oe, od, J, names⟩ := held_names I1 ha hf
    obtain ⟨w, look, r⟩ := names f v l
    exact HandSPX.exc_get I1.kIn J T.ga T.gg T.exC (PySem.W.findObj_own T.hdC own rfl look) (handed_of r) ⟨v, H1, I1.tok _, r, q⟩)⟩
/-- isinstance(e, c), e a held exception -/
def rIsX (K : PySem.W.Frag) : List V → Hp → VK → Prop := fun xs H Q => ∃ (a D : Addr) (d : Option Addr) (c : V) (cv : Value) (b : Bool), xs = [.ref a, c] ∧ H a = some (XO (.ref D) d a) ∧ (∀ dd, d = some dd → ∃ fs, H dd = some (.xd fs)) ∧ XIs K D ∧ (∀ u, RelV c u → u = cv) ∧ PySem.W.kitOne K (.ref D) cv = some b ∧ Q (.bl b) H
theorem call_isX : CallR X (.builtin "isinstance") (rIsX X.K) := by
  rintro pins s σ H xs us Q I r ⟨a, D, d, c, cv, b, rfl, ha, hd, T, only, kit, q⟩
  obtain ⟨u1, u2, rfl, r1, r2⟩ := vals2 r
  cases (show u1 = Value.ref a from r1)
  cases only _ r2
  obtain ⟨oe, od, J⟩ := held_inst I ha hd
  exact PySem.W.kia_one (PySem.W.kitx_exc T.cl T.ga T.gg T.exC T.ca T.cn T.ct T.cm) I.kIn J kit (fun z => nomatch z) fun tk => ⟨.bl b, H, I.tok tk, rfl, q⟩
end
end L2
end
section
set_option linter.all false
set_option maxRecDepth 100000
set_option maxHeartbeats 4000000
namespace L2
open PySem PySem.Spec PyProof.Rows TkX
/-- an object of the running code that was not known becomes known -/
theorem Inv.track {X : Cx} {pins : List (Addr × Obj)} {σ : St} {H : Hp} {s : Shared} (I : Inv X pins σ H s) {a : Addr} {oe : Obj} {vs : Array Value} {o : HO} (e : s.heap.get? a = some oe) (hd : oe.data = .fields vs) (na : H a = none) (nL : a ≠ X.env.locals) (n0 : X.s_0.heap.get? a = none)
    (np : ∀ p ∈ X.pn ++ pins, p.1 ≠ a) (new : ObjOk X.prog X.w (upd H a o) s.heap a o) : Inv X pins σ (upd H a o) s := by
  have ne0 : ∀ b u, X.s_0.heap.get? b = some u → b ≠ a := fun b u q z => by rw [z, n0] at q; cases q
  have neH : ∀ b u, H b = some u → b ≠ a := fun b u q => ne_of_none q na
  refine ⟨I.ok, I.os, I.bare, ⟨I.base.keep, I.base.slot, fun b u q n hx => by rw [upd_ne (ne0 b u q)]; exact I.base.free b u q n hx, I.base.there, fun b xs q => ?_, fun b u xs q => ?_, fun b ps q => ?_⟩, I.loc, I.cell, ?_, fun x c hc => ?_, fun p hp => ?_, fun b u q => ?_, I.len⟩
  · have z := I.base.tups b xs q
    rw [upd_ne (neH _ _ z)]; exact z
  · have z := I.base.frzs b u xs q
    rw [upd_ne (neH _ _ z)]; exact z
  · obtain ⟨more, z⟩ := I.base.tbls b ps q
    exact ⟨more, by rw [upd_ne (neH _ _ z)]; exact z⟩
  · rw [upd_ne nL.symm]; exact I.free
  · have hca : c ≠ a := fun z => by
      obtain ⟨v, u, h1, h2⟩ := I.cell x c hc
      rw [z, e] at h1
      cases h1
      rw [hd] at h2
      cases h2
    rw [upd_ne hca]; exact I.freeC x c hc
  · obtain ⟨h1, h2, h3⟩ := I.pin p hp
    exact ⟨h1, by rw [upd_ne (np p hp)]; exact h2, h3⟩
  · by_cases hb : b = a
    · subst hb
      rw [upd_same] at q
      cases q
      exact new
    · rw [upd_ne hb] at q
      exact (I.hok b u q).stay (fun c v _ r => r) (fun c r => by rw [upd_ne (neH _ _ r)]; exact r) fun c xs r => by rw [upd_ne (neH _ _ r)]; exact r
/-- what the clause 'except x as n' wishes where the suite keeps the exception: behind the suite it is known -/
def wKeep (K : PySem.W.Frag) (c : Value) (i : Nat) (ts : Addr → Value → Option Addr → TS) (Wout : WX) (D : Ends) : WX := fun cls d σ H =>
  ∃ b, PySem.W.exmOne K cls c = some b ∧ (b = true → ∀ a, H a = none → ts a cls d { nx := fun σ' H' => H' a = none → D.nx (σ'.set i none) (upd H' a (XO cls d a)), rt := fun _ _ => False } (σ.set i (some (.ref a))) H) ∧
    (b = false → Wout cls d σ H)
section
variable {X : Cx} {x n : Str} {c : Value} {i : Nat} {body suite : List Stmt} {b₀ : Stmt} {np pos pos' : Pos} {tb : WX → TS} {ts : Addr → Value → Option Addr → TS} {Wout : WX}
/-- where a caught exception stands: away from the frames, from what was there ahead, from the pins -/
structure Apart (X : Cx) (pins : List (Addr × Obj)) (a : Addr) : Prop where
  stk : a ∉ frs X.stack
  loc : a ≠ X.env.locals
  out : a ∉ X.fs
  old : X.s_0.heap.get? a = none
  pin : ∀ p ∈ X.pn ++ pins, p.1 ≠ a
theorem apart_of (hs : X.stack = X.env :: X.outer) (hf : X.env.frame = some X.env.locals) (hex : X.ex = []) {pins : List (Addr × Obj)} {σ : St} {H : Hp} {sI : Shared} {B h : Heap} {a : Addr} {Z : Obj → Prop} (J : Inv X pins σ H sI)
    (nb : ∀ b o, sI.heap.get? b = some o → b ∉ frs X.stack → B.get? b = some o) (fl : HandSPX.FlyingZ B (X.env :: X.outer) a Z h) : Apart X pins a := by
  obtain ⟨oe, vs, he, _, hd⟩ := fl.there
  have stk : a ∉ frs X.stack := fun hm => by
    rw [hs] at hm
    obtain ⟨_, o', e', nf⟩ := fl.2.2.1.mem hm
    rw [he] at e'
    cases e'
    exact nf _ hd
  have loc : a ≠ X.env.locals := fun z => stk (by rw [hs]; exact List.mem_filterMap.mpr ⟨X.env, List.mem_cons_self, by rw [hf, z]⟩)
  have out : a ∉ X.fs := fun hm => by
    obtain ⟨e, me, q⟩ := List.mem_filterMap.mp hm
    exact stk (by rw [hs]; exact List.mem_filterMap.mpr ⟨e, List.mem_cons_of_mem _ me, q⟩)
  have notB : ∀ o, sI.heap.get? a = some o → False := fun o e => by
    have z := nb a o e stk
    rw [show B.get? a = none from fl.2.1] at z
    cases z
  refine ⟨stk, loc, out, ?_, fun p hp z => ?_⟩
  · cases q : X.s_0.heap.get? a with
    | none => rfl
    | some o =>
      obtain ⟨o', e'⟩ := J.base.there a o q (by rw [hex]; simp)
      exact (notB o' e').elim
  · have q := (J.pin p hp).1
    rw [z] at q
    exact notB _ q
/-- a wish of the block under try is one of the statement -/
theorem SP.untry {pins : List (Addr × Obj)} {xe : Value → Shared → Prop} {D : Ends} {f : Flow} {s : Shared} (back : ∀ {σ' : St} {H' : Hp}, Inv (X.tr (X.pn ++ pins) xe) [] σ' H' s → Inv X pins σ' H' s) (h : SP (X.tr (X.pn ++ pins) xe) [] D f s) : SP X pins D f s :=
  match f, h with
  | .next, ⟨σ', H', J, q⟩ => ⟨σ', H', back J, q⟩
  | .brk, ⟨σ', H', J, q⟩ => ⟨σ', H', back J, q⟩
  | .cont, ⟨σ', H', J, q⟩ => ⟨σ', H', back J, q⟩
  | .ret _, ⟨v, σ', H', J, r, q⟩ => ⟨v, σ', H', back J, r, q⟩
/-- the clause's class, read while the exception is handled -/
theorem keep_ask {pn : List (Addr × Obj)} {a : Addr} {σ : St} {H : Hp} {s : Shared} {Q : Value → Shared → Prop} {E : Value → Shared → Prop} (S : Inv (X.suite a pn) [] σ H s) (hc : Names X x c) (q : Q c s) :
    wpAny (model X.prog X.w) (X.A.mark (some (.ref a))) (eval (.Name x np) X.env) Q E s :=
  match hc with
  | ⟨g, nd, .inl m⟩ => ld_glob (X := X.suite a pn) S g m q nd
  | ⟨g, nd, .inr ⟨m, v, nn⟩⟩ => ld_blt (X := X.suite a pn) S g m v q nn nd
/-- behind the suite the exception is an object like any other -/
theorem keep_known {pins : List (Addr × Obj)} {a : Addr} {oe : Obj} {vs : Array Value} {cls : Value} {d : Option Addr} {σ : St} {H : Hp} {s : Shared} (ap : Apart X pins a) (z : Zc cls d oe) (hd : oe.data = .fields vs)
    (back : Inv (X.suite a ((a, oe) :: (X.pn ++ pins))) [] σ H s → Inv X pins σ H s) (S : Inv (X.suite a ((a, oe) :: (X.pn ++ pins))) [] σ H s) : H a = none ∧ Inv X pins σ (upd H a (XO cls d a)) s := by
  have pinned := S.pin (a, oe) (List.mem_append_left _ (List.mem_cons_self ..))
  exact ⟨pinned.2.1, (back S).track pinned.1 hd pinned.2.1 ap.loc ap.old ap.pin (xo_ok pinned.1 z hd)⟩
/-- no clause is for it: it goes on -/
theorem keep_on {B h : Heap} {a : Addr} {cls : Value} {d : Option Addr} {s : Shared} {Q : Flow → Shared → Prop} {E : Value → Shared → Prop} (hf : X.env.frame = some X.env.locals) (fly : HandSPX.FlyingZ B (X.env :: X.outer) a (Zc cls d) h)
    (go : wpAny (model X.prog X.w) X.A (setFlight (.ref a) X.env.frame) (fun _ s4 => wpAny (model X.prog X.w) X.A (throw (.ref a) : Sem Flow) Q E s4) E { s with heap := h }) :
    wpAny (model X.prog X.w) X.A (handleBy (.ref a) X.env []) Q E { s with heap := h } := by
  obtain ⟨_, _, _, oe, vs, T, _, _, he, _, hd, tr, _⟩ := id fly
  refine wpAny_handleBy_nil ?_
  unfold PySem.passOn
  refine wpAny_bind (wpAny_field he hd tr ?_)
  have has : (Value.ref T == Value.none) = false := rfl
  simp only [has, Bool.false_eq_true, if_false]
  first
    | exact wpAny_bind go
    | exact wpAny_bind (wpAny_pure (wpAny_bind go))
theorem ps_try_keep (hs : X.stack = X.env :: X.outer) (hf : X.env.frame = some X.env.locals) (hex : X.ex = []) (hN : X.N.Nodup) (hi : X.N[i]? = some n) (hln : X.env.kindOf n = some .local) (hc : Names X x c) (tk : Takes X Wout)
    (hb : ∀ (W : WX) (pn : List (Addr × Obj)) (xe : Value → Shared → Prop), Takes (X.tr pn xe) W → PassesOwn (model X.prog X.w) X.A X.env xe → PSs (X.tr pn xe) body (tb W))
    (hsu : ∀ (a : Addr) (oe : Obj) (cls : Value) (d : Option Addr) (pn : List (Addr × Obj)), Zc cls d oe → (∃ vs, oe.data = .fields vs) → PSs (X.suite a ((a, oe) :: pn)) (b₀ :: suite) (ts a cls d)) :
    PS X (.Try body [.ExceptHandler (some (.Name x np)) (some n) (b₀ :: suite) pos'] [] [] pos) (fun D σ H => tb (wKeep X.K c i ts Wout D) D σ H) := by
  refine ⟨fun pins s σ H D I h => wpAny_Try_except ?_⟩
  have ok := I.ok
  refine wpAny_mono ((hb (wKeep X.K c i ts Wout D) (X.pn ++ pins) _ ?_ PassesOwn.looking).run [] s σ H D (I.toTry _) h) (fun f s1 w => ?_) (fun _ _ z => z)
  · rintro u s1 ⟨a, B, sI, _, σ1, H1, cls, d, rfl, J0, nb, up, sky, na, os, ag, hit, match_, yes, no⟩
    have J : Inv X pins σ1 H1 sI := J0.ofTry ok
    have sky_ : Sky B (X.env :: X.outer) a (Zc cls d) X.env.locals s1.heap := hs ▸ sky
    refine Sky.land Zc.steady (ok.frames.trans (congrArg some hs)) hf sky_ fun h3 fly up3 => ?_
    obtain ⟨oe, vs, at_, z, fields⟩ := fly.there
    have ap := apart_of hs hf hex J nb fly
    have now : Inv X pins σ1 H1 { s1 with heap := h3 } := J.landed nb fly.1 (up.trans up3) os ag
    refine wpAny_handleBy_cons (codeAny_handlers_test (keep_ask (now.suite at_ fields na ap.loc ap.out) hc ?_)) (fun q => nomatch q)
    have cls_ : PySem.W.Looks (model X.prog X.w) h3 (typeOf (.ref a)) cls := z.1 ▸ (PySem.W.Looks.ld at_).andThen .now
    refine (PySem.W.exm_one (M := model X.prog X.w) now.kIn cls_ match_).here ?_
    match hit, yes, no with
    | true, yes, _ =>
      refine codeAny_handlers_suite_as (HandSPX.lands_againZ fly fun h4 fly4 up4 => ?_)
      obtain ⟨oe4, vs4, at4, z4, fields4⟩ := fly4.there
      have there : Inv X pins σ1 H1 { s1 with heap := h4 } := J.landed nb fly4.1 ((up.trans up3).trans up4) os ag
      refine store_ok (X := X.suite a ((a, oe4) :: (X.pn ++ pins))) (v := .ref a) (there.suite at4 fields4 na ap.loc ap.out) hN hi (.inl hln) rfl (fun s5 S5 => ?_) (.inr hln)
      refine wpAny_mono ((hsu a oe4 cls d (X.pn ++ pins) z4 ⟨_, fields4⟩).run [] s5 _ H1 _ S5 (yes rfl a na)) ?_ fun _ _ z => z.elim
      rintro f s6 w
      match f, w with
      | .next, ⟨σ6, H6, S6, q6⟩ =>
        have known := keep_known ap z4 fields4 (fun S => S.unsuite ok) S6
        exact gone_ok known.2 hN hi hln fun s7 J7 => ⟨_, _, J7, q6 known.1⟩
      | .brk, ⟨_, _, _, q6⟩ => exact q6.elim
      | .cont, ⟨_, _, _, q6⟩ => exact q6.elim
      | .ret _, ⟨_, _, _, _, _, q6⟩ => exact q6.elim
    | false, _, no =>
      refine keep_on hf fly ?_
      rw [hf]
      exact HandSPX.setFlight_upZ fly fun h4 flies up4 => wpAny_throw (tk _ _ ⟨a, B, sI, pins, σ1, H1, cls, d, rfl, J, nb, (up.trans up3).trans up4, .inr (.inr (hs ▸ flies)), na, os, ag, no rfl⟩)
  · match f, SP.untry (fun J => J.ofTry ok) w with
    | .next, w => exact wpAny_execs_nil w
    | .brk, w => exact w
    | .cont, w => exact w
    | .ret _, w => exact w
end
end L2
end
section
set_option linter.all false
set_option maxRecDepth 100000
set_option maxHeartbeats 4000000
namespace Tk
open PySem PySem.Spec PyProof.Rows L2
/-! ### bundles: a def, a method, a maker as their callers use them -/
def Cl (P : Program) (w : World) (K : PySem.W.Frag) (mg : Str → Option Value) (base : Heap) (k : Nat) (x : Str) (sp : Sp) (dvs : List V) : Prop :=
  ∃ f fd ps ds, FnOk P w K mg base (L2.CX P w) k f fd ps sp ∧ mg x = some (.ref f) ∧ PySem.W.keepIn K (.ref f) = true ∧ Binds K fd ps ds ∧ Vals dvs ds
def Mth (P : Program) (w : World) (K : PySem.W.Frag) (mg : Str → Option Value) (base : Heap) (k : Nat) (C : Addr) (m : Str) (sp : Sp) (dvs : List V) : Prop :=
  Cls K C ∧ ∃ f fd ps ds, FnOk P w K mg base (L2.CX P w) k f fd ps sp ∧ Meth K C m f ∧ Binds K fd ps ds ∧ Vals dvs ds
def Mkr (P : Program) (w : World) (K : PySem.W.Frag) (mg : Str → Option Value) (base : Heap) (k : Nat) (x : Str) (C : Addr) (sp : Sp) (dvs : List V) : Prop :=
  ∃ f fd ps ds, FnOk P w K mg base (L2.CX P w) k f fd ps sp ∧ Mk K C f ∧ mg x = some (.ref C) ∧ Binds K fd ps ds ∧ Vals dvs ds
section
variable {X : Cx} {k j : Nat} {x m : Str} {C : Addr} {sp : Sp} {dvs : List V} {E : XK} {e o : Expr} {es : List Expr} {t : TA} {ta : TE} {p pos apos : Pos}
theorem pe_cl (c : Cl X.prog X.w X.K X.mg X.base k x sp dvs) (hr : Room j X.A) (hk : k ≤ j) (hg : Gl X x) (hx : Passes (L2.CX X.prog X.w) X E) (ha : PA X (e :: es) t) (hd : (x == ("__debug__" : Str)) = false := by decide)
    (he : starEach (e :: es) X.env = (false, eval e X.env) :: starEach es X.env := by rfl) (hpl : (backTo pos (starEach es X.env)).any (·.1) = false := by rfl) : PE X (.Call (.Name x p) (e :: es) [] pos) (tCall sp dvs E t) := by
  obtain ⟨f, fd, ps, ds, F, hm, hkp, hb, hv⟩ := c
  exact pe_call F (hr.mono hk) hg hm hkp hb hv hx ha hd he hpl
theorem pe_cl0 (c : Cl X.prog X.w X.K X.mg X.base k x sp dvs) (hr : Room j X.A) (hk : k ≤ j) (hg : Gl X x) (hx : Passes (L2.CX X.prog X.w) X E) (hd : (x == ("__debug__" : Str)) = false := by decide) : PE X (.Call (.Name x p) [] [] pos) (tCall sp dvs E tNil) := by
  obtain ⟨f, fd, ps, ds, F, hm, hkp, hb, hv⟩ := c
  exact pe_call0 F (hr.mono hk) hg hm hkp hb hv hx hd
theorem pe_mkr (c : Mkr X.prog X.w X.K X.mg X.base k x C sp dvs) (hr : Room j X.A) (hk : k + 1 ≤ j) (hg : Gl X x) (hx : Passes (L2.CX X.prog X.w) X E) (ha : PA X (e :: es) t) (hd : (x == ("__debug__" : Str)) = false := by decide)
    (he : starEach (e :: es) X.env = (false, eval e X.env) :: starEach es X.env := by rfl) (hpl : (backTo pos (starEach es X.env)).any (·.1) = false := by rfl) : PE X (.Call (.Name x p) (e :: es) [] pos) (tMake C sp dvs E t) := by
  obtain ⟨f, fd, ps, ds, F, M, hm, hb, hv⟩ := c
  exact pe_make M (F.mono (Nat.le_refl k)) (hr.mono hk) hg hm hb hv hx ha hd he hpl
theorem pe_mth {pl : Sem Bool} (c : Mth X.prog X.w X.K X.mg X.base k C m sp dvs) (hr : Room j X.A) (hk : k ≤ j) (hx : Passes (L2.CX X.prog X.w) X E) (he : PE X o ta) (ha : PA X (e :: es) t)
    (hst : starEach (e :: es) X.env = (false, eval e X.env) :: starEach es X.env := by rfl) (hpl : (backTo pos (starEach es X.env)).any (·.1) = false := by rfl)
    (ht : eval (.Call (.Attribute o m apos) (e :: es) [] pos) X.env = (do
      let ov ← eval o X.env
      standAt apos.atName
      let (f, first) ← holding [ov] (getMethod ov m pl)
      callWith pos f first (backTo pos (starEach (e :: es) X.env)) (backToKw pos (keywordEach [] X.env))) := by rfl) : PE X (.Call (.Attribute o m apos) (e :: es) [] pos) (tMeth C m sp dvs E ta t) := by
  obtain ⟨cl, f, fd, ps, ds, F, hm, hb, hv⟩ := c
  exact pe_meth (pl := pl) he cl hm F (hr.mono hk) hb hv hx ha hst hpl ht
theorem pe_mth0 {pl : Sem Bool} (c : Mth X.prog X.w X.K X.mg X.base k C m sp dvs) (hr : Room j X.A) (hk : k ≤ j) (hx : Passes (L2.CX X.prog X.w) X E) (he : PE X o ta)
    (ht : eval (.Call (.Attribute o m apos) [] [] pos) X.env = (do
      let ov ← eval o X.env
      standAt apos.atName
      let (f, first) ← holding [ov] (getMethod ov m pl)
      callWith pos f first (backTo pos (starEach [] X.env)) (backToKw pos (keywordEach [] X.env))) := by rfl) : PE X (.Call (.Attribute o m apos) [] [] pos) (tMeth C m sp dvs E ta tNil) := by
  obtain ⟨cl, f, fd, ps, ds, F, hm, hb, hv⟩ := c
  exact pe_meth0 (pl := pl) he cl hm F (hr.mono hk) hb hv hx ht
end
/-! ### named readings -/
def rAddI : R2 := rI0 fun i j => .int (i + j)
def rSubI : R2 := rI0 fun i j => .int (i - j)
def rMulI : R2 := rI CMul fun i j => .int (i * j)
def rModI : R2 := rI (fun _ j => 0 < j) fun i j => .int (i % j)
def rDivI : R2 := rI CDiv fun i j => .int (i / j)
def rPowI : R2 := rI CPow fun i j => .int (i ^ j.toNat)
def rLtI : R2 := rI0 fun i j => .bl (decide (i < j))
def rLeI : R2 := rI0 fun i j => .bl (decide (i ≤ j))
def rGtI : R2 := rI0 fun i j => .bl (decide (j < i))
def rGeI : R2 := rI0 fun i j => .bl (decide (j ≤ i))
def rAddSt : R2 := fun x y H Q => ∃ i j, x = .str i ∧ y = .str j ∧ i.length + j.length ≤ sizeLine ∧ Q (.str (i ++ j)) H
abbrev RC := List V → Hp → VK → Prop
def rLenQ (K : PySem.W.Frag) : RC := fun xs H Q => ∃ p ys, xs = [.ref p] ∧ (SqL K H p ys ∨ SqT K H p ys) ∧ Q (.int ys.length) H
def rLenS : RC := fun xs H Q => ∃ z, xs = [.str z] ∧ z.length ≤ sizeLine ∧ Q (.int z.length) H
def rLenD : RC := fun xs H Q => ∃ a kvs, xs = [V.ref a] ∧ H a = some (.dK kvs) ∧ Q (.int kvs.length) H
def rAbs : RC := fun xs H Q => ∃ i, xs = [.int i] ∧ Q (.int (if i < 0 then -i else i)) H
def rInt1 : RC := fun xs H Q => (∃ i, xs = [.int i] ∧ Q (.int i) H) ∨ ∃ k, xs = [.bl k] ∧ Q (.int (if k then 1 else 0)) H
def rIntS : RC := fun xs H Q => ∃ a n, xs = [.str a] ∧ PySem.intText? a = some n ∧ a.length ≤ 640 ∧ Q (.int n) H
def rListOf (K : PySem.W.Frag) : RC := fun xs H Q => ∃ p ys, xs = [.ref p] ∧ (SqL K H p ys ∨ SqT K H p ys) ∧ ∀ l, H l = none → Q (.ref l) (upd H l (.lst ys))
abbrev oNone : TO := tNoPart
abbrev oSome (t : TE) : TO := tPart t
section
variable {X : Cx}
theorem oAddI : OpR X (binaryOp .Add) rAddI := op_add
theorem oSubI : OpR X (binaryOp .Sub) rSubI := op_sub
theorem oMulI : OpR X (binaryOp .Mult) rMulI := op_mul
theorem oModI : OpR X (binaryOp .Mod) rModI := op_mod
theorem oDivI : OpR X (binaryOp .FloorDiv) rDivI := op_fdiv
theorem oPowI : OpR X (binaryOp .Pow) rPowI := op_pow
theorem oLtI : OpR X (compareOp .Lt) rLtI := op_lt
theorem oLeI : OpR X (compareOp .LtE) rLeI := op_le
theorem oGtI : OpR X (compareOp .Gt) rGtI := op_gt
theorem oGeI : OpR X (compareOp .GtE) rGeI := op_ge
theorem oAddS : OpR X (binaryOp .Add) rAddSt := op_add_str
theorem call_lenQ : CallR X (.builtin "len") (rLenQ X.K) := call_len_seq
theorem call_lenS : CallR X (.builtin "len") rLenS := call_len_str
theorem call_lenDi : CallR X (.builtin "len") rLenD := call_lenD
theorem call_absI : CallR X (.builtin "abs") rAbs := call_abs
theorem call_int1' : CallR X (.type "int") rInt1 := call_int1
theorem call_intS : CallR X (.type "int") rIntS := call_int_str
theorem call_listOf : CallR X (.type "list") (rListOf X.K) := call_list_of
end
/-! ### steps: the goal is a reading; each lemma gives what is left -/
section
variable {σ : L2.St} {H : Hp} {Q : VK} {D : Ends} {K : PySem.W.Frag} {i j : Int} {n : Nat} {v : V} {ta tb : TE} {r : R2} {t u : TT} {t1 t2 : TS} {a : Addr} {xs : List V} {b : Bool}
theorem s_var (h : σ[n]? = some (some v)) (q : Q v H) : tVar n σ H Q := ⟨v, h, q⟩
theorem s_c (q : Q v H) : tC v σ H Q := q
theorem s_op (q : ta σ H fun x H1 => tb σ H1 fun y H2 => r x y H2 Q) : tOp r ta tb σ H Q := q
theorem s_addI (q : Q (.int (i + j)) H) : rAddI (.int i) (.int j) H Q := ⟨i, j, rfl, rfl, q⟩
theorem s_subI (q : Q (.int (i - j)) H) : rSubI (.int i) (.int j) H Q := ⟨i, j, rfl, rfl, q⟩
theorem s_mulI (c : CMul i j) (q : Q (.int (i * j)) H) : rMulI (.int i) (.int j) H Q := ⟨i, j, rfl, rfl, c, q⟩
theorem s_modI (c : 0 < j) (q : Q (.int (i % j)) H) : rModI (.int i) (.int j) H Q := ⟨i, j, rfl, rfl, c, q⟩
theorem s_divI (c : CDiv i j) (q : Q (.int (i / j)) H) : rDivI (.int i) (.int j) H Q := ⟨i, j, rfl, rfl, c, q⟩
theorem s_powI (c : CPow i j) (q : Q (.int (i ^ j.toNat)) H) : rPowI (.int i) (.int j) H Q := ⟨i, j, rfl, rfl, c, q⟩
theorem s_ltI (q : Q (.bl (decide (i < j))) H) : rLtI (.int i) (.int j) H Q := ⟨i, j, rfl, rfl, q⟩
theorem s_leI (q : Q (.bl (decide (i ≤ j))) H) : rLeI (.int i) (.int j) H Q := ⟨i, j, rfl, rfl, q⟩
theorem s_gtI (q : Q (.bl (decide (j < i))) H) : rGtI (.int i) (.int j) H Q := ⟨i, j, rfl, rfl, q⟩
theorem s_geI (q : Q (.bl (decide (j ≤ i))) H) : rGeI (.int i) (.int j) H Q := ⟨i, j, rfl, rfl, q⟩
theorem s_addS {x y : Str} (c : x.length + y.length ≤ sizeLine) (q : Q (.str (x ++ y)) H) : rAddSt (.str x) (.str y) H Q := ⟨x, y, rfl, rfl, c, q⟩
theorem s_eq {x y : V} (c : scal x y = true) (q : Q (.bl (decide (x = y))) H) : rEq x y H Q := ⟨c, q⟩
theorem s_ne {x y : V} (c : scal x y = true) (q : Q (.bl (!decide (x = y))) H) : rNe x y H Q := ⟨c, q⟩
theorem s_isN {x : V} (q : Q (.bl (decide (x = .non))) H) : rIsN x .non H Q := ⟨rfl, q⟩
theorem s_notN {x : V} (q : Q (.bl (!decide (x = .non))) H) : rNotN x .non H Q := ⟨rfl, q⟩
theorem s_ixL (h : SqL K H a xs) (e : atI xs i = some v) (q : Q v H) : rIxL K (.ref a) (.int i) H Q := ⟨a, xs, i, v, rfl, rfl, h, e, q⟩
theorem s_ixT (h : SqT K H a xs) (e : atI xs i = some v) (q : Q v H) : rIxT K (.ref a) (.int i) H Q := ⟨a, xs, i, v, rfl, rfl, h, e, q⟩
theorem s_un {f : Int → V} (q : ta σ H fun x H1 => rU f x H1 Q) : tUn (rU f) ta σ H Q := q
theorem s_unI {f : Int → V} (q : Q (f i) H) : rU f (.int i) H Q := ⟨i, rfl, q⟩
theorem s_cb {rc : RC} {t : TA} (q : t σ H fun vs H1 => rc vs H1 Q) : tCB rc t σ H Q := q
theorem s_nil {Q : List V → Hp → Prop} (q : Q [] H) : tNil σ H Q := q
theorem s_cons {tr : TA} {Q : List V → Hp → Prop} (q : ta σ H fun x H1 => tr σ H1 fun xs H2 => Q (x :: xs) H2) : tCons ta tr σ H Q := q
theorem s_lenL (h : SqL K H a xs) (q : Q (.int xs.length) H) : rLenQ K [.ref a] H Q := ⟨a, xs, rfl, .inl h, q⟩
theorem s_lenT (h : SqT K H a xs) (q : Q (.int xs.length) H) : rLenQ K [.ref a] H Q := ⟨a, xs, rfl, .inr h, q⟩
theorem s_lenS {z : Str} (h : z.length ≤ sizeLine) (q : Q (.int z.length) H) : rLenS [.str z] H Q := ⟨z, rfl, h, q⟩
theorem s_abs (q : Q (.int (if i < 0 then -i else i)) H) : rAbs [.int i] H Q := ⟨i, rfl, q⟩
theorem s_int1 (q : Q (.int i) H) : rInt1 [.int i] H Q := .inl ⟨i, rfl, q⟩
theorem s_intB (q : Q (.int (if b then 1 else 0)) H) : rInt1 [.bl b] H Q := .inr ⟨b, rfl, q⟩
/-- a value that is a bool, as a test -/
def kB (Qb : Bool → Hp → Prop) : VK := fun x H => ∃ k, x = .bl k ∧ Qb k H
theorem s_test {Qb : Bool → Hp → Prop} (q : ta σ H (kB Qb)) : tTest ta σ H Qb := q
theorem s_B {Qb : Bool → Hp → Prop} (q : ta σ H (kB Qb)) : tB ta σ H Qb := q
theorem s_kB {Qb : Bool → Hp → Prop} (q : Qb b H) : kB Qb (.bl b) H := ⟨b, rfl, q⟩
theorem s_not {Qb : Bool → Hp → Prop} (q : t σ H fun c H1 => Qb (!c) H1) : tNot t σ H Qb := q
theorem s_and {Qb : Bool → Hp → Prop} (q : t σ H fun c H1 => if c = true then u σ H1 Qb else Qb false H1) : tAnd t u σ H Qb := q
theorem s_or {Qb : Bool → Hp → Prop} (q : t σ H fun c H1 => if c = true then Qb true H1 else u σ H1 Qb) : tOr t u σ H Qb := q
theorem s_andV (q : ta σ H fun x H1 => kB (fun c H1 => if c = true then tb σ H1 Q else Q (.bl false) H1) x H1) : tAndV ta tb σ H Q := q
theorem s_orV (q : ta σ H fun x H1 => kB (fun c H1 => if c = true then Q (.bl true) H1 else tb σ H1 Q) x H1) : tOrV ta tb σ H Q := q
theorem s_notV (q : ta σ H fun x H1 => kB (fun c H1 => Q (.bl (!c)) H1) x H1) : tNotV ta σ H Q := q
theorem s_if (q : t σ H fun c H1 => if c = true then ta σ H1 Q else tb σ H1 Q) : tIf t ta tb σ H Q := q
theorem s_tup {tt : TA} (q : tt σ H fun xs H1 => xs.length ≤ sizeLine ∧ ∀ p, H1 p = none → Q (.ref p) (upd H1 p (.tup xs))) : tTup tt σ H Q := q
theorem s_lst {tt : TA} (q : tt σ H fun xs H1 => xs.length ≤ sizeLine ∧ ∀ p, H1 p = none → Q (.ref p) (upd H1 p (.lst xs))) : tLst tt σ H Q := q
theorem s_fld {C dx : Addr} {fs : List (Str × V)} {f : Str} (q : ta σ H fun x H1 => ∃ a C dx fs v, x = .ref a ∧ H1 a = some (.ins C dx fs) ∧ Cls K C ∧ NoAttr K C f ∧ fs.lookup f = some v ∧ Q v H1) : tFld K ta f σ H Q := q
/-! statements -/
theorem s_seq (q : t1 { D with nx := t2 D } σ H) : tSeq t1 t2 D σ H := q
theorem s_next (q : D.nx σ H) : tNext D σ H := q
theorem s_asg {g : TG} (q : ta σ H fun x H1 => g x σ H1 D.nx) : tAsg ta g D σ H := q
theorem s_name {Qn : L2.St → Hp → Prop} (q : Qn (σ.set n (some v)) H) : gName n v σ H Qn := q
theorem s_ret (q : ta σ H D.rt) : tRet ta D σ H := q
theorem s_drop (q : ta σ H fun _ H1 => D.nx σ H1) : tDrop ta D σ H := q
theorem s_ifS (q : t σ H fun b H1 => if b = true then t1 D σ H1 else t2 D σ H1) : tIfS t t1 t2 D σ H := q
theorem s_call {sp : Sp} {dvs : List V} {E : XK} {tt : TA} (q : tt σ H fun vs H1 => sp (vs ++ dvs) H1 Q E) : tCall sp dvs E tt σ H Q := q
end
end Tk
end
section
set_option linter.all false
set_option maxRecDepth 100000
set_option maxHeartbeats 4000000
namespace Tk
open PySem PySem.Spec PyProof.Rows L2
/-! ### heaps: what lies outside the addresses M stays -/
def off (M : List Addr) (H : Hp) : Hp := fun a => if a ∈ M then none else H a
def Up (M : List Addr) (H H' : Hp) : Prop := ∀ a o, a ∉ M → H a = some o → H' a = some o
section
variable {M N : List Addr} {H H' H1 H2 : Hp} {a p : Addr} {o u : HO}
theorem off_at (n : a ∉ M) (e : H a = some o) : off M H a = some o := by unfold off; rw [if_neg n]; exact e
theorem off_get (e : off M H a = some o) : a ∉ M ∧ H a = some o := by
  unfold off at e
  split at e
  · cases e
  · exact ⟨by assumption, e⟩
theorem off_le : Ext (off M H) H := fun _ _ e => (off_get e).2
theorem Up.ext (e : Up M H H') : Ext (off M H) (off M H') := fun a o h => off_at (off_get h).1 (e a o (off_get h).1 (off_get h).2)
theorem Up.refl : Up M H H := fun _ _ _ e => e
theorem Up.trans (e : Up M H H1) (f : Up M H1 H2) : Up M H H2 := fun a o n h => f a o n (e a o n h)
theorem Up.mono (e : Up M H H') (s : ∀ x ∈ M, x ∈ N) : Up N H H' := fun a o n h => e a o (fun z => n (s a z)) h
theorem Up.of (e : Ext H H') : Up M H H' := fun a o _ h => e a o h
theorem Up.to (e : Up [] H H') : Ext H H' := fun a o h => e a o (by simp) h
theorem Up.cons (e : Up M H H') : Up (p :: M) H H' := e.mono fun x h => List.mem_cons_of_mem _ h
theorem Up.nil (e : Up [] H H') : Up M H H' := e.mono fun _ h => nomatch h
theorem ext_new (n : H p = none) : Ext H (upd H p o) := fun a u h => by rw [upd_ne (ne_of_none h n)]; exact h
theorem up_new (n : H p = none) : Up M H (upd H p o) := .of (ext_new n)
theorem up_at (m : p ∈ M) : Up M H (upd H p o) := fun a u n h => by
  have q : a ≠ p := fun z => n (by rw [z]; exact m)
  rw [upd_ne q]; exact h
theorem Up.new (e : Up M H H') (n : H' p = none) : Up M H (upd H' p o) := e.trans (up_new n)
theorem Up.at (e : Up M H H') (m : p ∈ M) : Up M H (upd H' p o) := e.trans (up_at m)
/-- an address that was free joins the changing ones -/
theorem ext_join (e : Up M H H') (n : H p = none) : Ext (off M H) (off (p :: M) H') := fun a o h => by
  obtain ⟨h1, h2⟩ := off_get h
  refine off_at (fun z => ?_) (e a o h1 h2)
  rcases List.mem_cons.mp z with z | z
  · rw [z, n] at h2; cases h2
  · exact h1 z
theorem Up.get (e : Up M H H') (n : a ∉ M) (h : H a = some o) : H' a = some o := e a o n h
theorem Up.free (e : Up [] H H') (h : H' a = none) : H a = none := by
  cases q : H a with
  | none => rfl
  | some o => rw [e a o (by simp) q] at h; cases h
end
/-! data stay -/
mutual
theorem dp_ext {K : PySem.W.Frag} {H H' : Hp} (e : Ext H H') : ∀ {d : PyData} {v : V}, Dp K H v d → Dp K H' v d
  | _, _, .non => .non
  | _, _, .bl b => .bl b
  | _, _, .int i => .int i
  | _, _, .str x => .str x
  | _, _, .lst h a => .lst (h.ext e) (dpAll_ext e a)
  | _, _, .tup h a => .tup (h.ext e) (dpAll_ext e a)
theorem dpAll_ext {K : PySem.W.Frag} {H H' : Hp} (e : Ext H H') : ∀ {ds : List PyData} {vs : List V}, DpAll K H vs ds → DpAll K H' vs ds
  | _, _, .nil => .nil
  | _, _, .cons h a => .cons (dp_ext e h) (dpAll_ext e a)
end
/-! ### kinds of values -/
inductive Tag | non | bl | int | str | lst | tup | dct | own (C : Addr)
def Tag.ty : Tag → Value
  | .non => .type "NoneType" | .bl => .type "bool" | .int => .type "int" | .str => .type "str" | .lst => .type "list" | .tup => .type "tuple" | .dct => .type "dict" | .own C => .ref C
/-- what isinstance asks of an own class -/
structure OwnC (K : PySem.W.Frag) (C : Addr) : Prop where
  cl : Cls K C
  ha : PySem.W.findIn K (.ref C) "__class__" = some (some (.builtin "object.__class__"))
  hn : PySem.W.specialIn K (.builtin "object.__class__") "__get__" = some (some (.builtin "getset_descriptor.__get__"))
  htk : PySem.W.takesIn K (.builtin "object.__class__") = some true
  hm : PySem.W.mroIn K C (.type "object") = some true
  no : ∀ n ∈ (["int", "bool", "str", "list", "tuple", "dict"] : List String), PySem.W.kitOne K (.ref C) (.type n) = some false
  yes : PySem.W.kitOne K (.ref C) (.ref C) = some true
  off : ∀ g : Tag, (∀ D, g ≠ .own D) → PySem.W.kitOne K g.ty (.ref C) = some false
inductive Is (K : PySem.W.Frag) (H : Hp) : V → Tag → Prop
  | non : Is K H .non .non
  | bl (b : Bool) : Is K H (.bl b) .bl
  | int (i : Int) : Is K H (.int i) .int
  | str (x : Str) : Is K H (.str x) .str
  | lst {a : Addr} {xs : List V} (e : H a = some (.lst xs)) : Is K H (.ref a) .lst
  | tup {a : Addr} {xs : List V} (e : H a = some (.tup xs)) : Is K H (.ref a) .tup
  | dct {a : Addr} {kvs : List (Key × V)} (e : H a = some (.dK kvs)) : Is K H (.ref a) .dct
  | own {a C dx : Addr} {fs : List (Str × V)} (e : H a = some (.ins C dx fs)) (c : OwnC K C) : Is K H (.ref a) (.own C)
theorem Is.ext {K : PySem.W.Frag} {H H' : Hp} {x : V} {g : Tag} (h : Is K H x g) (e : Ext H H') : Is K H' x g := by
  cases h with
  | non => exact .non
  | bl b => exact .bl b
  | int i => exact .int i
  | str x => exact .str x
  | lst q => exact .lst (e _ _ q)
  | tup q => exact .tup (e _ _ q)
  | dct q => exact .dct (e _ _ q)
  | own q c => exact .own (e _ _ q) c
theorem Is.ty {K : PySem.W.Frag} {H : Hp} {x : V} {g : Tag} (h : Is K H x g) : TyX K H x g.ty := by
  cases h with
  | non => exact .base .non
  | bl b => exact .base (.bl b)
  | int i => exact .base (.int i)
  | str x => exact .base (.str x)
  | lst q => exact .base (.lst q)
  | tup q => exact .base (.tup q)
  | dct q => exact .base (.dK q)
  | own q c => exact .base (.ins q c.cl c.ha c.hn c.htk c.hm)
/-- isinstance(x, T) for a built-in T -/
def Tag.isB : Tag → String → Bool
  | .bl, "bool" => true | .bl, "int" => true | .int, "int" => true | .str, "str" => true | .lst, "list" => true | .tup, "tuple" => true | .dct, "dict" => true
  | _, _ => false
theorem Is.kit {K : PySem.W.Frag} {H : Hp} {x : V} {g : Tag} (h : Is K H x g) : ∀ n ∈ (["int", "bool", "str", "list", "tuple", "dict"] : List String), PySem.W.kitOne K g.ty (.type n) = some (g.isB n) := by
  intro n hn
  cases h with
  | own q c =>
    rw [show Tag.ty (.own _) = .ref _ from rfl, c.no n hn]
    simp only [List.mem_cons, List.not_mem_nil, or_false] at hn
    rcases hn with rfl | rfl | rfl | rfl | rfl | rfl <;> rfl
  | _ =>
    simp only [List.mem_cons, List.not_mem_nil, or_false] at hn
    rcases hn with rfl | rfl | rfl | rfl | rfl | rfl <;> exact kit_ty (by decide +kernel)
section
variable {σ : L2.St} {H : Hp} {Q : VK} {K : PySem.W.Frag} {x : V} {g : Tag} {C : Addr}
theorem s_isiB {n : String} (h : Is K H x g) (hn : n ∈ (["int", "bool", "str", "list", "tuple", "dict"] : List String)) (q : Q (.bl (g.isB n)) H) : rIsi K [x, .ty n] H Q :=
  ⟨x, .ty n, g.ty, .type n, g.isB n, rfl, .ty n, h.ty, h.kit n hn, q⟩
theorem s_isiO {b : Bool} (h : Is K H x g) (e : PySem.W.kitOne K g.ty (.ref C) = some b) (q : Q (.bl b) H) : rIsi K [x, .ref C] H Q :=
  ⟨x, .ref C, g.ty, .ref C, b, rfl, .own C, h.ty, e, q⟩
end
def isInt : V → Bool
  | .int _ => true
  | _ => false
theorem Is.int_eq {K : PySem.W.Frag} {H : Hp} {x : V} {g : Tag} (h : Is K H x g) : (g.isB "int" && !g.isB "bool") = isInt x := by
  cases h <;> rfl
theorem Is.str_of {K : PySem.W.Frag} {H : Hp} {x : V} {g : Tag} (h : Is K H x g) (e : g.isB "str" = true) : ∃ s, x = .str s := by
  cases h <;> first | exact ⟨_, rfl⟩ | exact absurd (show false = true from e) Bool.false_ne_true
theorem Is.not_str {K : PySem.W.Frag} {H : Hp} {x : V} {g : Tag} (h : Is K H x g) (e : g.isB "str" = false) : ∀ s, x ≠ .str s := by
  cases h <;> first | exact absurd (show true = false from e) (by decide) | exact fun _ z => V.noConfusion z
theorem Is.dct_of {K : PySem.W.Frag} {H : Hp} {x : V} {g : Tag} (h : Is K H x g) (e : g.isB "dict" = true) : g = .dct ∧ ∃ a kvs, x = .ref a ∧ H a = some (.dK kvs) := by
  cases h <;> first | exact ⟨rfl, _, _, rfl, by assumption⟩ | exact absurd (show false = true from e) Bool.false_ne_true
end Tk
end
section
set_option linter.all false
set_option maxRecDepth 100000
set_option maxHeartbeats 4000000
namespace Tk
open PySem PySem.Spec PyProof.Rows L2
theorem hr_u64 {k : Nat} {A : Around} (r : Room k A) : A.units + 64 < cLine := by have := r.un; omega
section
variable {σ : L2.St} {H : Hp} {Q : VK} {D : Ends} {K : PySem.W.Frag} {i j : Int} {n : Nat} {v : V} {ta tb : TE} {r : R2} {t u : TT} {t1 t2 : TS} {a : Addr} {xs : List V} {b : Bool}
theorem s_slL {lo hi : Option Int} (h : SqL K H a xs) (q : ∀ p, H p = none → Q (.ref p) (upd H p (.lst (cutV xs lo hi)))) : rSlL K (.ref a) lo hi H Q := ⟨a, xs, rfl, h, q⟩
theorem s_slS {lo hi : Option Int} {z : Str} (h : z.length ≤ sizeLine) (q : Q (.str (cutS z lo hi)) H) : rSlS (.str z) lo hi H Q := ⟨z, rfl, h, q⟩
theorem s_sl {rs : V → Option Int → Option Int → Hp → VK → Prop} {tl th : TO} (q : ta σ H fun x H1 => tl σ H1 fun l H2 => th σ H2 fun u H3 => rs x l u H3 Q) : L2.tSl rs ta tl th σ H Q := q
/-- a value that is an int -/
def kI (Qi : Int → Hp → Prop) : VK := fun x H => ∃ i, x = .int i ∧ Qi i H
theorem s_kI {Qi : Int → Hp → Prop} (q : Qi i H) : kI Qi (.int i) H := ⟨i, rfl, q⟩
theorem s_none {Qo : Option Int → Hp → Prop} (q : Qo none H) : oNone σ H Qo := q
theorem s_some {Qo : Option Int → Hp → Prop} (q : ta σ H fun x H1 => kI (fun i H2 => Qo (some i) H2) x H1) : oSome ta σ H Qo := q
theorem s_listOf (h : SqL K H a xs) (q : ∀ l, H l = none → Q (.ref l) (upd H l (.lst xs))) : rListOf K [.ref a] H Q := ⟨a, xs, rfl, .inl h, q⟩
theorem s_listOfT (h : SqT K H a xs) (q : ∀ l, H l = none → Q (.ref l) (upd H l (.lst xs))) : rListOf K [.ref a] H Q := ⟨a, xs, rfl, .inr h, q⟩
theorem s_setL {k : Nat} {Qh : Hp → Prop} (h : H a = some (.lst xs)) (e : ixN xs.length i = some k) (q : Qh (upd H a (.lst (xs.set k v)))) : rSetL (.ref a) (.int i) v H Qh := ⟨a, xs, i, k, rfl, rfl, h, e, q⟩
theorem s_sub {to ti : TE} {ts : TSet} {Qs : L2.St → Hp → Prop} (q : to σ H fun o H1 => ti σ H1 fun i H2 => ts o i v H2 fun H3 => Qs σ H3) : gSub to ti ts v σ H Qs := q
theorem s_eqD {x y : V} {d e : PyData} (h1 : Dp K H x d) (h2 : Dp K H y e) (s1 : SeqAt.shaped d = true) (s2 : SeqAt.shaped e = true) (q : Q (.bl (PyData.eqv d e)) H) : rEqD K x y H Q := ⟨d, e, h1, h2, s1, s2, q⟩
theorem s_neD {x y : V} {d e : PyData} (h1 : Dp K H x d) (h2 : Dp K H y e) (s1 : SeqAt.shaped d = true) (s2 : SeqAt.shaped e = true) (q : Q (.bl (!PyData.eqv d e)) H) : rNeD K x y H Q := ⟨d, e, h1, h2, s1, s2, q⟩
theorem ite_t {α : Type} {p q : Prop} (h : p) : if true = true then p else q := by rw [if_pos rfl]; exact h
theorem ite_f {p q : Prop} (h : q) : if false = true then p else q := by rw [if_neg Bool.false_ne_true]; exact h
theorem ite_b {p q : Prop} (h1 : b = true → p) (h2 : b = false → q) : if b = true then p else q := by
  cases b
  · exact ite_f (h2 rfl)
  · exact ite_t (α := Unit) (h1 rfl)
def rSplit : V → List V → Hp → VK → Prop := fun x xs H Q => ∃ a b, x = .str a ∧ xs = [.str b] ∧ (b.length == 0) = false ∧ a.length + 2 ≤ sizeLine ∧ rNewStrs (Txt.split a b) H Q
theorem ite_n {p q : Prop} (h1 : b = false → p) (h2 : b = true → q) : if (!b) = true then p else q := by
  cases b
  · exact ite_t (α := Unit) (h1 rfl)
  · exact ite_f (h2 rfl)
/-- the field of an own object -/
def kFld (K : PySem.W.Frag) (f : Str) (Q : VK) : VK := fun x H1 => ∃ a C dx fs v, x = .ref a ∧ H1 a = some (.ins C dx fs) ∧ Cls K C ∧ NoAttr K C f ∧ fs.lookup f = some v ∧ Q v H1
theorem s_fldT {f : Str} (q : ta σ H (kFld K f Q)) : tFld K ta f σ H Q := q
theorem s_cval {ta : TE} {f : Str} (q : ta σ H fun x H1 => ∃ C mc v u, x = .ref C ∧ ClX.CRead K C mc ∧ ClX.CVal K C mc f v u ∧ Q v H1) : ClX.tCVal K ta f σ H Q := q
theorem s_bm {T : String} {r : V → List V → Hp → VK → Prop} {to : TE} {t : TA} (q : to σ H fun x H1 => tyV K T x H1 ∧ t σ H1 fun xs H2 => r x xs H2 Q) : tBM K T r to t σ H Q := q
theorem s_m1 {r : V → List V → Hp → VK → Prop} {to te : TE} (q : to σ H fun x H1 => (∃ a, x = .str a) ∧ te σ H1 fun y H2 => r x [y] H2 Q) : tM1 r to te σ H Q := q
theorem s_par {i j : Nat} {ta : TA} (q : ta σ H fun vs H1 => ∃ v w, vs = [v, w] ∧ D.nx ((σ.set i (some v)).set j (some w)) H1) : tPar i j ta D σ H := q
theorem s_par3 {i j l : Nat} {ta : TA} (q : ta σ H fun vs H1 => ∃ u v w, vs = [u, v, w] ∧ D.nx (((σ.set i (some u)).set j (some v)).set l (some w)) H1) : tPar3 i j l ta D σ H := q
theorem s_raise {C : Addr} {fs : List Str} {W : WX} {ta : TA} (q : ta σ H fun vs H1 => vs.length = fs.length ∧ XDict C fs vs H1 fun cls d H' => W cls d σ H') : tRaiseX C fs W ta D σ H := q
theorem s_sfld {tv : TE} {f : Str} (q : tv σ H fun y H1 => ta σ H1 fun x H2 => ∃ a C dx fs, x = .ref a ∧ H2 a = some (.ins C dx fs) ∧ Cls K C ∧ NoAttr K C f ∧ fs.length < 1000 ∧ D.nx σ (upd H2 a (.ins C dx (putF f y fs)))) : sFld K ta tv f D σ H := q
theorem s_make {C : Addr} {sp : Sp} {dvs : List V} {E : XK} {t : TA} (q : t σ H fun vs H1 => ∀ x dx, H1 x = none → H1 dx = none → dx ≠ x → sp (.ref x :: (vs ++ dvs)) (upd (upd H1 dx (.own x)) x (.ins C dx [])) (fun v H2 => v = .non ∧ Q (.ref x) H2) E) : tMake C sp dvs E t σ H Q := q
theorem s_dget {td ty : TE} (q : td σ H fun x H1 => ty σ H1 fun y H2 => ∃ a v, x = .ref a ∧ DGet H2 a y (some v) ∧ Q v H2) : tDGet td ty σ H Q := q
theorem s_dget1 {td ty : TE} (q : td σ H fun x H1 => ∃ a, x = .ref a ∧ IsD H1 a ∧ ty σ H1 fun y H2 => ∃ o, DGet H2 a y o ∧ Q (o.getD .non) H2) : tDGet1 td ty σ H Q := q
theorem s_while {c : TT} {tb : TS} (q : ∃ W : Nat → L2.St → Hp → Prop, (∃ m, W m σ H) ∧ ∀ m σ H, W m σ H →
  c σ H fun b H1 => if b = true then ∃ N : L2.St → Hp → Prop, (∀ σ' H', N σ' H' → ∃ m', m' < m ∧ W m' σ' H') ∧ tb { D with nx := N, ct := N, bk := D.nx } σ H1 else D.nx σ H1) : tWhile c tb D σ H := q
/-- a while that is left at once -/
theorem s_while0 {c : TT} {tb : TS} (q : c σ H fun b H1 => if b = true then False else D.nx σ H1) (mono : ∀ Q Q' : Bool → Hp → Prop, (∀ b H1, Q b H1 → Q' b H1) → c σ H Q → c σ H Q') : tWhile c tb D σ H :=
  ⟨fun _ σ' H' => σ' = σ ∧ H' = H, ⟨0, rfl, rfl⟩, fun m σ' H' ⟨h1, h2⟩ => by
    subst h1 h2
    exact mono _ _ (fun b H1 z => by cases b <;> first | exact z | exact (ite_f (by exact z)) | exact False.elim (by simpa using z)) q⟩
theorem s_inT {x : V} (h : SqT K H a xs) (f1 : flatV x = true) (f2 : xs.all flatV = true) (q : Q (.bl (inV x xs)) H) : rIn K false x (.ref a) H Q := ⟨a, xs, rfl, .inr h, f1, f2, q⟩
theorem s_notInT {x : V} (h : SqT K H a xs) (f1 : flatV x = true) (f2 : xs.all flatV = true) (q : Q (.bl (!inV x xs)) H) : rIn K true x (.ref a) H Q := ⟨a, xs, rfl, .inr h, f1, f2, q⟩
theorem s_ixS {z : Str} {c : Nat} (h : z.length ≤ sizeLine) (e : atI z.cps.toList i = some c) (q : Q (.str ⟨#[c]⟩) H) : rIxS (.str z) (.int i) H Q := ⟨z, i, c, rfl, rfl, h, e, q⟩
theorem s_notInS {z : Str} {c : Nat} (q : Q (.bl (!decide (c ∈ z.cps.toList))) H) : rNotInS (.str ⟨#[c]⟩) (.str z) H Q := ⟨c, z, rfl, rfl, q⟩
theorem s_any {bs : List Bool} (h : SqL K H a (bs.map V.bl)) (q : Q (.bl (bs.any id)) H) : rAny K [.ref a] H Q := ⟨a, bs, rfl, h, q⟩
theorem s_intS {z : Str} {m : Int} (e : PySem.intText? z = some m) (h : z.length ≤ 640) (q : Q (.int m) H) : rIntS [.str z] H Q := ⟨z, m, rfl, e, h, q⟩
theorem s_split {x y : Str} (h1 : (y.length == 0) = false) (h2 : x.length + 2 ≤ sizeLine) (q : ∀ p, H p = none → Q (.ref p) (upd H p (.lst ((Txt.split x y).map V.str)))) : rSplit (.str x) [.str y] H Q := ⟨x, y, rfl, rfl, h1, h2, q⟩
/-- a join: behind a branch or a loop -/
def tSeqJ (t1 t2 : TS) : TS := tSeq t1 t2
theorem s_seqJ (q : t1 { D with nx := t2 D } σ H) : tSeqJ t1 t2 D σ H := q
theorem s_seqT {α : Type} (Z : α → L2.St) (tail : ∀ c, t2 D (Z c) H) (q : (∀ c, t2 D (Z c) H) → t1 { D with nx := t2 D } σ H) : tSeqJ t1 t2 D σ H := q tail
/-- the same where the heap changes too: W says what is known behind the branch -/
theorem s_seqW {α : Type} (Z : α → L2.St) (W : α → Hp → Prop) (tail : ∀ c H', W c H' → t2 D (Z c) H') (q : (∀ c H', W c H' → t2 D (Z c) H') → t1 { D with nx := t2 D } σ H) : tSeqJ t1 t2 D σ H := q tail
/-- a choice of values, its end the same for both -/
def tIfJ (t : TT) (ta tb : TE) : TE := tIf t ta tb
theorem s_ifJ (q : t σ H fun c H1 => if c = true then ta σ H1 Q else tb σ H1 Q) : tIfJ t ta tb σ H Q := q
theorem s_ifW (W : V → Hp → Prop) (tail : ∀ v H', W v H' → Q v H') (q : (∀ v H', W v H' → Q v H') → t σ H fun c H1 => if c = true then ta σ H1 Q else tb σ H1 Q) : tIfJ t ta tb σ H Q := q tail
/-! f-strings -/
def tJoin (ts : List TE) : TE := fun σ H Q => tJs ts Str.empty σ H fun out H1 => Q (.str out) H1
/-- a text, joined on -/
def kJ (acc : Str) (ts : List TE) (σ : L2.St) (Qs : Str → Hp → Prop) : VK := fun x H1 => ∃ y : Str, x = .str y ∧ (acc ++ y).length ≤ sizeLine ∧ tJs ts (acc ++ y) σ H1 Qs
theorem s_join (ts : List TE) (q : tJs ts Str.empty σ H fun out H1 => Q (.str out) H1) : tJoin ts σ H Q := q
theorem s_js {acc : Str} {t : TE} {ts : List TE} {Qs : Str → Hp → Prop} (q : t σ H (kJ acc ts σ Qs)) : tJs (t :: ts) acc σ H Qs := q
theorem s_jn {acc : Str} {Qs : Str → Hp → Prop} (q : Qs acc H) : tJs [] acc σ H Qs := q
theorem s_kJ {acc y : Str} {ts : List TE} {Qs : Str → Hp → Prop} (h : (acc ++ y).length ≤ sizeLine) (q : tJs ts (acc ++ y) σ H Qs) : kJ acc ts σ Qs (.str y) H := ⟨y, rfl, h, q⟩
/-- a field of an f-string -/
def kF (Q : VK) : VK := fun x H1 => (∃ y : Str, x = .str y ∧ y.length ≤ sizeLine ∧ Q (.str y) H1) ∨ ∃ i : Int, x = .int i ∧ i.natAbs.log2 < 1920 ∧ Q (.str (toString i)) H1
theorem s_fmt (q : ta σ H (kF Q)) : tFmt ta σ H Q := q
theorem s_kFS {y : Str} (h : y.length ≤ sizeLine) (q : Q (.str y) H) : kF Q (.str y) H := .inl ⟨y, rfl, h, q⟩
theorem s_kFI (h : i.natAbs.log2 < 1920) (q : Q (.str (toString i)) H) : kF Q (.int i) H := .inr ⟨i, rfl, h, q⟩
def rStrI : RC := fun xs H Q => ∃ i, xs = [.int i] ∧ i.natAbs.log2 < 1920 ∧ Q (.str (toString i)) H
theorem s_strI (h : i.natAbs.log2 < 1920) (q : Q (.str (toString i)) H) : rStrI [.int i] H Q := ⟨i, rfl, h, q⟩
/-! never reached -/
def tNoWay : TS := fun _ _ _ => False
def rTupIx (K : PySem.W.Frag) : V → List V → Hp → VK → Prop := fun x xs H Q => ∃ p, ∃ ys : List Str, ∃ z j, x = .ref p ∧ xs = [.str z] ∧ SqT K H p (ys.map V.str) ∧ ys[j]? = some z ∧ (∀ m, m < j → ys[m]? ≠ some z) ∧ Q (.int (j : Nat)) H
def rTlt (K : PySem.W.Frag) : R2 := rLtT K
def rTle (K : PySem.W.Frag) : R2 := rLeT K
def rTge (K : PySem.W.Frag) : R2 := fun x y H Q => ∃ (a b : Addr) (ns ms : List Int), x = .ref a ∧ y = .ref b ∧ SqT K H a (ns.map V.int) ∧ SqT K H b (ms.map V.int) ∧
  Q (.bl (Ob.lexAt (fun j => decide (ns.getD j 0 = ms.getD j 0)) (fun j => decide (ms.getD j 0 ≤ ns.getD j 0)) (decide (ns.length ≥ ms.length)) 0 (min ns.length ms.length))) H
def rTgt (K : PySem.W.Frag) : R2 := fun x y H Q => ∃ (a b : Addr) (ns ms : List Int), x = .ref a ∧ y = .ref b ∧ SqT K H a (ns.map V.int) ∧ SqT K H b (ms.map V.int) ∧
  Q (.bl (Ob.lexAt (fun j => decide (ns.getD j 0 = ms.getD j 0)) (fun j => decide (ms.getD j 0 < ns.getD j 0)) (decide (ns.length > ms.length)) 0 (min ns.length ms.length))) H
theorem hr_u {k : Nat} {A : Around} (r : Room k A) : A.units < cLine := by have := r.un; omega
end
section
variable {X : Cx}
theorem pss_consJ {st : Stmt} {r : List Stmt} {ts tr : TS} (h : PS X st ts) (hr : PSs X r tr) : PSs X (st :: r) (tSeqJ ts tr) := pss_cons h hr
theorem pe_ifJ {c a b : Expr} {pos : Pos} {tA : TT} {ta tb : TE} (hc : PT X c tA) (ha : PE X a ta) (hb : PE X b tb) : PE X (.IfExp c a b pos) (tIfJ tA ta tb) := pe_ifExp hc ha hb
theorem ps_noWay {st : Stmt} : PS X st tNoWay := ⟨fun _ _ _ _ _ _ h => h.elim⟩
theorem pss_noWay {st : List Stmt} : PSs X st tNoWay := ⟨fun _ _ _ _ _ _ h => h.elim⟩
theorem call_strI : CallR X (.type "str") rStrI := call_str_int
theorem mt_tupIx : MtR X "tuple.index" (rTupIx X.K) := mt_tup_index
theorem mt_splitN : MtR X "str.split" rSplit := mt_split
theorem oTlt (hu : X.A.units < cLine) : OpR X (compareOp .Lt) (rTlt X.K) := op_ltT hu
theorem oTle (hu : X.A.units < cLine) : OpR X (compareOp .LtE) (rTle X.K) := op_leT hu
/-- the items of two tuples of ints -/
theorem ints_at {pins : List (Addr × Obj)} {σ : L2.St} {H : Hp} {s : Shared} {a : Addr} {ns : List Int} (I : Inv X pins σ H s) (h : SqT X.K H a (ns.map V.int)) :
    ∃ its : List Value, IsTup s.heap a its.toArray ∧ its.toArray.size = ns.length ∧ ∀ j (h1 : j < its.toArray.size), ∃ t, its.toArray[j] = .int (ns.getD j 0) t := by
  obtain ⟨its, r1, p1, _⟩ := I.tuple h
  have i1 : IntsAre its ns := Vals.ints r1
  refine ⟨its, p1, by rw [List.size_toArray]; exact i1.length, fun j h1 => PyProof.Rows.IntsAre.int_at i1 _ _ (by simp at h1; simp [h1])⟩
theorem eqI_at {A : Around} {s : Shared} {i j : Int} {t t' : Tok} : SeqAt.EqAt A s (.int i t) (.int j t') (decide (i = j)) := by
  have z : (i == j) = decide (i = j) := by
    by_cases q : i = j
    · rw [decide_eq_true q]; exact beq_iff_eq.mpr q
    · rw [decide_eq_false q]; exact beq_eq_false_iff_ne.mpr q
  rw [← z]
  exact SeqAt.EqAt.int_int _ _ _ _
theorem oTge (hu : X.A.units < cLine) : OpR X (compareOp .GtE) (rTge X.K) := by
  intro pins s σ H x y v u Q I rx ry h
  obtain ⟨a, b, ns, ms, rfl, rfl, ha, hb, q⟩ := h
  cases rx
  cases ry
  obtain ⟨its, p1, e1, at1⟩ := ints_at I ha
  obtain ⟨its2, p2, e2, at2⟩ := ints_at I hb
  have R := Ob.RcOp.tuples_ge (A := X.A) (s := s) (e := fun j => decide (ns.getD j 0 = ms.getD j 0)) (r := fun j => decide (ms.getD j 0 ≤ ns.getD j 0)) p1 p2 hu (fun j h1 h2 => by
    obtain ⟨t, et⟩ := at1 j h1
    obtain ⟨t', et'⟩ := at2 j h2
    rw [et, et']
    exact eqI_at) (fun j h1 h2 _ => by
    obtain ⟨t, et⟩ := at1 j h1
    obtain ⟨t', et'⟩ := at2 j h2
    rw [et, et']
    exact Ob.RcOp.ge_int _ _ _ _)
  rw [e1, e2] at R
  exact R X.prog X.w X.xe _ ⟨.bl _, H, I, rfl, q⟩
theorem oTgt (hu : X.A.units < cLine) : OpR X (compareOp .Gt) (rTgt X.K) := by
  intro pins s σ H x y v u Q I rx ry h
  obtain ⟨a, b, ns, ms, rfl, rfl, ha, hb, q⟩ := h
  cases rx
  cases ry
  obtain ⟨its, p1, e1, at1⟩ := ints_at I ha
  obtain ⟨its2, p2, e2, at2⟩ := ints_at I hb
  have R := Ob.RcOp.tuples_gt (A := X.A) (s := s) (e := fun j => decide (ns.getD j 0 = ms.getD j 0)) (r := fun j => decide (ms.getD j 0 < ns.getD j 0)) p1 p2 hu (fun j h1 h2 => by
    obtain ⟨t, et⟩ := at1 j h1
    obtain ⟨t', et'⟩ := at2 j h2
    rw [et, et']
    exact eqI_at) (fun j h1 h2 _ => by
    obtain ⟨t, et⟩ := at1 j h1
    obtain ⟨t', et'⟩ := at2 j h2
    rw [et, et']
    exact Ob.RcOp.gt_int _ _ _ _)
  rw [e1, e2] at R
  exact R X.prog X.w X.xe _ ⟨.bl _, H, I, rfl, q⟩
end
end Tk
end
section
set_option linter.all false
set_option maxRecDepth 100000
set_option maxHeartbeats 4000000
namespace Tk
open PySem PySem.Spec PyProof.Rows L2
theorem wipe1 {σ : L2.St} {k : Nat} {v : Option V} : wipe ((wipe σ [k]).set k v) [k] = wipe σ [k] := by
  show ((σ.set k none).set k v).set k none = σ.set k none
  rw [List.set_set, List.set_set]
/-- the turns of a comprehension, the iterator being J -/
def lcGo (J : It) (g : TG) (tt : TT) (te : TE) (vs : List Nat) (σ : L2.St) (Q : VK) : Hp → Prop := fun H1 => ∀ D, H1 D = none → ∃ W : Nat → Nat → Hp → Prop, (∃ m, W 0 m (upd H1 D (.lst []))) ∧ ∀ i m H, W i m H →
  (J.stop i H ∧ Q (.ref D) H) ∨ (J.go i H ∧ ∃ Nx : Hp → Prop, (∀ H', Nx H' → ∃ m', m' < m ∧ W (i + 1) m' H') ∧ ∀ x H', J.yld i H x H' → g x (wipe σ vs) H' fun σ2 H2 => wipe σ2 vs = wipe σ vs ∧ tt σ2 H2 fun b H3 =>
    if b = true then te σ2 H3 fun y H4 => ∃ acc, H4 D = some (.lst acc) ∧ acc.length < sizeLine ∧ Nx (upd H4 D (.lst (acc ++ [y]))) else Nx H3)
def kLcS (g : TG) (tt : TT) (te : TE) (vs : List Nat) (σ : L2.St) (Q : VK) : VK := fun v H1 => ∃ x, v = .str x ∧ lcGo (Its x) g tt te vs σ Q H1
section
variable {σ : L2.St} {H : Hp} {Q : VK} {K : PySem.W.Frag} {g : TG} {tt : TT} {te te0 : TE} {vs : List Nat} {k : Nat}
theorem s_yes {Qb : Bool → Hp → Prop} (q : Qb true H) : tYes σ H Qb := q
theorem s_lcS (q : te0 σ H (kLcS g tt te vs σ Q)) : tLc (iStr te0) g tt te vs σ H Q := q
/-- over a text, no test, values by sign -/
theorem lc_txt {z : Str} (f : Nat → V) (hz : z.length ≤ sizeLine) (el : ∀ c ∈ z.cps.toList, ∀ (H' : Hp) (Q' : VK), Q' (f c) H' → te ((wipe σ [k]).set k (some (.str ⟨#[c]⟩))) H' Q')
    (q : ∀ D H', H D = none → Ext H H' → H' D = some (.lst (z.cps.toList.map f)) → Q (.ref D) H') : kLcS (gName k) tYes te [k] σ Q (.str z) H := by
  refine ⟨z, rfl, fun D hD => ?_⟩
  have e0 : z.cps.toList.length = z.cps.size := Array.length_toList
  refine lc_it walk_str (fun i H' => Ext H H' ∧ H' D = some (.lst ((z.cps.toList.take i).map f))) ⟨ext_new hD, by rw [upd_same]; rfl⟩ (fun _ _ _ _ => trivial) (fun i x H1 H' hi hp hy => ?_) (fun H1 hp => ?_)
  · obtain ⟨rfl, c, hc, rfl⟩ := hy
    obtain ⟨ex, hd⟩ := hp
    have hc' : z.cps.toList[i]? = some c := by rw [Array.getElem?_toList]; exact hc
    refine ⟨wipe1, ?_⟩
    refine s_yes ?_
    refine ite_t (α := Unit) ?_
    refine el c (List.mem_of_getElem? hc') _ _ ⟨_, hd, ?_, ?_, ?_⟩
    · rw [List.length_map, List.length_take]
      have : z.length = z.cps.size := rfl
      omega
    · exact fun b o e => by rw [upd_ne (ne_of_none e hD)]; exact ex _ _ e
    · rw [upd_same, List.take_succ, hc', List.map_append]; rfl
  · refine q D H1 hD hp.1 ?_
    rw [hp.2, ← e0, List.take_length]
/-! for loops -/
def forGo (J : It) (g : TG) (tb : TS) (D : Ends) (σ : L2.St) : Hp → Prop := fun H1 => ∃ W : Nat → Nat → L2.St → Hp → Prop, (∃ m, W 0 m σ H1) ∧ ∀ i m σ H, W i m σ H →
  (J.stop i H ∧ D.nx σ H) ∨ (J.go i H ∧ ∃ N : L2.St → Hp → Prop, (∀ σ' H', N σ' H' → ∃ m', m' < m ∧ W (i + 1) m' σ' H') ∧ ∀ x H', J.yld i H x H' → g x σ H' fun σ2 H2 => tb { D with nx := N, ct := N, bk := D.nx } σ2 H2)
def kForL (K : PySem.W.Frag) (g : TG) (tb : TS) (D : Ends) (σ : L2.St) : VK := fun v H1 => ∃ a, v = .ref a ∧ (∃ xs, SqL K H1 a xs) ∧ forGo (Itl K a) g tb D σ H1
theorem s_forL {tb : TS} {D : Ends} (q : te0 σ H (kForL K g tb D σ)) : tFor (iList K te0) g tb D σ H := q
theorem forL {tb : TS} {D : Ends} {a : Addr} {xs : List V} (Pv : Nat → L2.St → Hp → Prop) (h : SqL K H a xs) (h0 : Pv 0 σ H) (hG : ∀ i σ H, i ≤ xs.length → Pv i σ H → SqL K H a xs)
    (hs : ∀ i x σ H, xs[i]? = some x → Pv i σ H → g x σ H fun σ2 H2 => tb { D with nx := Pv (i + 1), ct := Pv (i + 1), bk := D.nx } σ2 H2) (hd : ∀ σ H, Pv xs.length σ H → D.nx σ H) : kForL K g tb D σ (.ref a) H :=
  ⟨a, rfl, ⟨xs, h⟩, for_it walk_list Pv h0 hG (fun i x σ H H' _ p y => by obtain ⟨rfl, hx⟩ := y; exact hs i x σ _ hx p) hd⟩
def kForZ (K : PySem.W.Frag) (g : TG) (tb : TS) (D : Ends) (σ : L2.St) : List V → Hp → Prop := fun vs H1 => ∃ a b xs ys, vs = [.ref a, .ref b] ∧ SqL K H1 a xs ∧ SqL K H1 b ys ∧ forGo (Itz K a b) g tb D σ H1
theorem s_forZ {ta : TA} {tb : TS} {D : Ends} (q : ta σ H (kForZ K g tb D σ)) : tFor (iZip K ta) g tb D σ H := q
theorem forZ {tb : TS} {D : Ends} {a b : Addr} {xs ys : List V} (Pv : Nat → L2.St → Hp → Prop) (hl : xs.length = ys.length) (hx : SqL K H a xs) (hy : SqL K H b ys) (h0 : Pv 0 σ H) (hG : ∀ i σ H, i ≤ xs.length → Pv i σ H → SqL K H a xs ∧ SqL K H b ys)
    (hs : ∀ i x y p σ H, xs[i]? = some x → ys[i]? = some y → Pv i σ H → H p = none → g (.ref p) σ (upd H p (.tup [x, y])) fun σ2 H2 => tb { D with nx := Pv (i + 1), ct := Pv (i + 1), bk := D.nx } σ2 H2) (hd : ∀ σ H, Pv xs.length σ H → D.nx σ H) : kForZ K g tb D σ [.ref a, .ref b] H :=
  ⟨a, b, xs, ys, rfl, hx, hy, for_it (walk_zip (n := xs.length) (by omega)) Pv h0 hG (fun i x σ H H' _ p y => by
    obtain ⟨T, x', y', rfl, hT, rfl, e1, e2⟩ := y
    exact hs i x' y' T σ H e1 e2 p hT) hd⟩
def kForR (g : TG) (tb : TS) (D : Ends) (σ : L2.St) : List V → Hp → Prop := fun vs H1 => ∃ j : Int, vs = [.int j] ∧ -(2 ^ 62) ≤ j ∧ j < 2 ^ 62 ∧ forGo (Itr 0 j.toNat) g tb D σ H1
theorem s_forR {ta : TA} {tb : TS} {D : Ends} (q : ta σ H (kForR g tb D σ)) : tFor (iRng1 ta) g tb D σ H := q
theorem forR {tb : TS} {D : Ends} {j : Int} (Pv : Nat → L2.St → Hp → Prop) (h1 : -(2 ^ 62) ≤ j) (h2 : j < 2 ^ 62) (h0 : Pv 0 σ H)
    (hs : ∀ (i : Nat) σ H, i < j.toNat → Pv i σ H → g (.int (i : Int)) σ H fun σ2 H2 => tb { D with nx := Pv (i + 1), ct := Pv (i + 1), bk := D.nx } σ2 H2) (hd : ∀ σ H, Pv j.toNat σ H → D.nx σ H) : kForR g tb D σ [.int j] H :=
  ⟨j, rfl, h1, h2, for_it walk_range Pv h0 (fun _ _ _ _ _ => True.intro) (fun i x σ H H' hi p y => by
    obtain ⟨rfl, rfl⟩ := y
    have z := hs i σ _ hi p
    show g (V.int (0 + (i : Int))) σ _ _
    rw [Int.zero_add]; exact z) hd⟩
/-! comprehensions over a list -/
def kLcL (K : PySem.W.Frag) (g : TG) (tt : TT) (te : TE) (vs : List Nat) (σ : L2.St) (Q : VK) : VK := fun v H1 => ∃ a, v = .ref a ∧ (∃ xs, SqL K H1 a xs) ∧ lcGo (Itl K a) g tt te vs σ Q H1
theorem s_lcL (q : te0 σ H (kLcL K g tt te vs σ Q)) : tLc (iList K te0) g tt te vs σ H Q := q
theorem lcL {a : Addr} {xs : List V} (h : SqL K H a xs) (go : ∀ D, H D = none → ∃ Pv : Nat → Hp → Prop, Pv 0 (upd H D (.lst [])) ∧ (∀ i H, i ≤ xs.length → Pv i H → SqL K H a xs) ∧
    (∀ i x H, xs[i]? = some x → Pv i H → g x (wipe σ vs) H fun σ2 H2 => wipe σ2 vs = wipe σ vs ∧ tt σ2 H2 fun b H3 =>
      if b = true then te σ2 H3 fun y H4 => ∃ acc, H4 D = some (.lst acc) ∧ acc.length < sizeLine ∧ Pv (i + 1) (upd H4 D (.lst (acc ++ [y]))) else Pv (i + 1) H3) ∧ ∀ H, Pv xs.length H → Q (.ref D) H) : kLcL K g tt te vs σ Q (.ref a) H := by
  refine ⟨a, rfl, ⟨xs, h⟩, fun D hD => ?_⟩
  obtain ⟨Pv, h0, hG, hs, hd⟩ := go D hD
  exact lc_it walk_list Pv h0 hG (fun i x H H' _ p y => by obtain ⟨rfl, hx⟩ := y; exact hs i x _ hx p) hd
/-- over a text, under a test: the signs that pass -/
theorem lc_txtF {z : Str} (f : Nat → Bool) (hz : z.length ≤ sizeLine) (el : ∀ c ∈ z.cps.toList, ∀ (H' : Hp) (Q' : Bool → Hp → Prop), Q' (f c) H' → tt ((wipe σ [k]).set k (some (.str ⟨#[c]⟩))) H' Q')
    (te_ : ∀ c ∈ z.cps.toList, ∀ (H' : Hp) (Q' : VK), Q' (.str ⟨#[c]⟩) H' → te ((wipe σ [k]).set k (some (.str ⟨#[c]⟩))) H' Q')
    (q : ∀ D H', H D = none → Ext H H' → H' D = some (.lst ((z.cps.toList.filter f).map fun c => .str ⟨#[c]⟩)) → Q (.ref D) H') : kLcS (gName k) tt te [k] σ Q (.str z) H := by
  refine ⟨z, rfl, fun D hD => ?_⟩
  have e0 : z.cps.toList.length = z.cps.size := Array.length_toList
  refine lc_it walk_str (fun i H' => Ext H H' ∧ H' D = some (.lst (((z.cps.toList.take i).filter f).map fun c => .str ⟨#[c]⟩))) ⟨ext_new hD, by rw [upd_same]; rfl⟩ (fun _ _ _ _ => trivial) (fun i x H1 H' hi hp hy => ?_) (fun H1 hp => ?_)
  · obtain ⟨rfl, c, hc, rfl⟩ := hy
    obtain ⟨ex, hd⟩ := hp
    have hc' : z.cps.toList[i]? = some c := by rw [Array.getElem?_toList]; exact hc
    refine ⟨wipe1, ?_⟩
    refine el c (List.mem_of_getElem? hc') _ _ ?_
    refine ite_b (fun e => ?_) (fun e => ?_)
    · refine te_ c (List.mem_of_getElem? hc') _ _ ⟨_, hd, ?_, ?_, ?_⟩
      · rw [List.length_map]
        have h1 := List.length_filter_le f (z.cps.toList.take i)
        rw [List.length_take] at h1
        have : z.length = z.cps.size := rfl
        omega
      · exact fun b o e => by rw [upd_ne (ne_of_none e hD)]; exact ex _ _ e
      · rw [upd_same, List.take_succ, hc', List.filter_append, List.map_append]
        simp [e]
    · refine ⟨ex, ?_⟩
      rw [hd, List.take_succ, hc', List.filter_append, List.map_append]
      simp [e]
  · refine q D H1 hD hp.1 ?_
    rw [hp.2, ← e0, List.take_length]
end
end Tk
end
section
set_option linter.all false
set_option maxRecDepth 100000
set_option maxHeartbeats 4000000
namespace TkO
open PySem PySem.W PySem.Calls PyProof.Rows PySem.Spec
open Builtin
/-! ### own operators beside values of built-in types -/
section
variable {prog : Program} {w : World} {A : Around} {E : Value → Shared → Prop} {s : Shared} {K : Frag} {x C L f : Addr} {h₀ : Heap} {m : Str → Option Value} {ox : Obj} {od : Option Obj} {T : String}
/-- what K and the built-in type T say of an operator's two slots -/
structure BinT (K : Frag) (C : Addr) (nm : String) (T : String) : Prop where
  lf : ∃ fo, findIn K (.type T) (PySem.dunder nm) = some fo
  rf : ∃ ro, findIn K (.type T) (dunderR nm) = some ro
  sub : subIn K (.type T) (.ref C) = some false
structure BinC (K : Frag) (C f : Addr) (nm : String) : Prop where
  first : selfFirst K C = true
  at_ : findIn K (.ref C) (PySem.dunder nm) = some (some (.ref f))
  fn : isFn K (.ref f) = true
  back : ∃ rc, findIn K (.ref C) (dunderR nm) = some rc ∧ (rc = none ∨ ∃ g : Addr, rc = some (.ref g))
/-- what binaryOp1 looks up before the class on the left is asked: whether the right side's type has the operation too decides how much -/
structure Asked (M : Model) (h : Heap) (x C : Addr) (b : Value) (T : String) (nm : String) (too : Bool) : Prop where
  left : Looks M h (typeOf (.ref x)) (.ref C)
  right : Looks M h (typeOf b) (.type T)
  has : Looks M h (fillsNumberSlot (.ref C) nm) true
  too_ : Looks M h (fillsNumberSlot (.type T) nm) too
  below : Looks M h (isSubtype (.type T) (.ref C)) false
  python : Looks M h (numberSlotInPython (.ref C) nm) true
  back : ∃ r, Looks M h (typeLookup (.type T) (dunderR nm)) r
theorem Asked.op1 {M : Model} {b : Value} {T nm : String} {too : Bool} {Q : Option Value → Shared → Prop} (a : Asked M s.heap x C b T nm too)
    (h : wpAny M A (tryMethod (.ref x) (PySem.dunder nm) b) (fun r s' => ∃ v, r = some v ∧ Q (some v) s') E s) : wpAny M A (binaryOp1 nm (.ref x) b) Q E s := by
  have other : (Value.ref C == Value.type T) = false := by
    rcases q : (Value.ref C == Value.type T) with _ | _
    · rfl
    · exact nomatch beq_iff_eq.mp q
  have answer : ∀ rest : Sem (Option Value), wpAny M A (tryMethod (.ref x) (PySem.dunder nm) b >>= fun r => match r with
      | some v => pure (some v)
      | none => rest) Q E s := fun rest => wpAny_bind (wpAny_mono h (fun r s' ⟨v, e, q⟩ => by subst e; exact wpAny_pure q) fun _ _ e => e)
  obtain ⟨r, back⟩ := a.back
  unfold binaryOp1
  apply wpAny_bind; apply a.left.here
  apply wpAny_bind; apply a.right.here
  apply wpAny_bind; apply a.has.here
  rw [other]
  apply wpAny_bind; apply a.too_.here
  cases too
  · -- the left side alone
    simp only [Bool.and_false, Bool.false_and, Bool.false_eq_true, if_false, if_true, pure_bind]
    first | exact answer _ | exact wpAny_bind (wpAny_mono h (fun r s' ⟨v, e, q⟩ => by subst e; exact wpAny_pure q) fun _ _ e => e)
  · -- both: the right side's type is not below, and is no Python class
    simp only [Bool.and_true, if_true]
    apply wpAny_bind; apply a.below.here
    simp only [Bool.false_eq_true, if_false, Bool.not_false, if_true, pure_bind, Bool.and_true]
    apply wpAny_bind; apply a.python.here
    simp only [if_true]
    apply wpAny_bind
    apply (Looks.of_pure (M := M) (h := s.heap) (show numberSlotInPython (.type T) nm = pure false from rfl)).here
    simp only [Bool.not_false, if_true]
    apply wpAny_bind; apply back.here
    first | exact answer _ | exact wpAny_bind (wpAny_mono h (fun r s' ⟨v, e, q⟩ => by subst e; exact wpAny_pure q) fun _ _ e => e)
theorem own_bin {op : Operator} {b : Value} {Q : Value → Shared → Prop} (F : Fr h₀ L s.heap m) (X₀ : K.In h₀) (I : InstAt s.heap x ox C od) (hb : Looks (model prog w) s.heap (typeOf b) (.type T)) (c : BinC K C f op.info.2) (t : BinT K C op.info.2 T)
    (h : wpAny (model prog w) A (call (.ref f) [.ref x, b]) (PySem.W.CmpBack Q) E s) : wpAny (model prog w) A (binaryOp op (.ref x) b) Q E s := by
  have kept : K.In s.heap := X₀.keeps F.keep
  obtain ⟨_, _, cls, head⟩ := ksp_first c.first
  obtain ⟨_, at_, which⟩ := c.back
  obtain ⟨_, own⟩ := t.lf
  obtain ⟨ro, refl_⟩ := t.rf
  have asked : Asked (model prog w) s.heap x C b T op.info.2 _ := ⟨I.type, hb, fills_K kept cls head c.at_, ksp_fillsT kept own refl_, looks_subIn kept t.sub, ksp_inPy kept c.at_ at_ which, ro, looks_findIn kept refl_⟩
  unfold binaryOp
  refine wpAny_holding (wpAny_bind (asked.op1 ?_))
  exact wpAny_mono (ksp_try kept I c.at_ c.fn h) (fun r s' ⟨v, e, q⟩ => ⟨v, e, wpAny_pure q⟩) fun _ _ e => e
theorem bound_blt {M : Model} {name : Str} {id : String} {args : List Value} {Q : Option Value → Shared → Prop} (X : K.In s.heap) (I : InstAt s.heap x ox C od) (hs : findIn K (.ref C) name = some (some (.builtin id)))
    (hb : ∀ self, bindSpecial (.builtin id) self = pure (.builtin id, [self])) (h : wpAny M A (call (.builtin id) (.ref x :: args)) (fun v => Q (some v)) E s) : wpAny M A (callSpecialIfBound? (.ref x) name args) Q E s := by
  simp only [callSpecialIfBound?, bindSpecialIfBound?]
  refine wpAny_holding (wpAny_bind (wpAny_bind (wpAny_bind (I.type.here ((looks_findIn X hs).here ?_)))))
  refine wpAny_bind (wpAny_askSetting (wpAny_ite ?_))
  have fin : wpAny M A (call (.builtin id) ([.ref x] ++ args) >>= fun v => pure (some v)) Q E s := wpAny_bind (wpAny_mono h (fun v s' h' => wpAny_pure h') fun _ _ h' => h')
  split
  · exact wpAny_bind ((Looks.of_pure (hb _)).here (wpAny_pure (by exact fin)))
  · exact wpAny_tryCatch (wpAny_bind ((Looks.of_pure (hb _)).here (wpAny_pure (by exact fin))))
/-- the own == behind object's != -/
def NeBack (Q : Value → Shared → Prop) (v : Value) (s' : Shared) : Prop := ∃ r : Bool, v = .bool r ∧ Q (.bool (!r)) s'
theorem own_ne {b : Value} {tb : Value} {Q : Value → Shared → Prop} (hu : A.units + 1 < cLine) (F : Fr h₀ L s.heap m) (X₀ : K.In h₀) (I : InstAt s.heap x ox C od) (hb : Looks (model prog w) s.heap (typeOf b) tb) (hn : notFirst K C tb = true)
    (he : findIn K (.ref C) "__eq__" = some (some (.ref f))) (hf : isFn K (.ref f) = true) (hne : findIn K (.ref C) "__ne__" = some (some (.builtin "object.__ne__"))) (hm : mroIn K C (.type "object") = some true)
    (h : wpAny (model prog w) A.in1 (call (.ref f) [.ref x, b]) (NeBack Q) E s) : wpAny (model prog w) A (richCompare .NotEq (.ref x) b) Q E s := by
  have X := X₀.keeps F.keep
  have one : wpAny (model prog w) A (tryCompare (.ref x) "__ne__" b) (fun r s' => ∃ v, r = some v ∧ Q v s') E s := by
    unfold tryCompare
    refine wpAny_bind (bound_blt X I hne PySem.F.slot_object_ne.bind ?_)
    refine wpAny_call (codeAny_call_builtin PySem.F.slot_object_ne.plain PySem.F.cmpEntry_ne (check_slot (i := "object.__ne__") (owner := "object") (n := "__ne__") (by decide +kernel) (by decide +kernel) (I.type.andThen (looks_mroIn X hm)) (PySem.F.cmpArgs_ne _ _) ?_))
    unfold Builtin.«object.__ne__»
    refine wpAny_bind (m := slotArgs "__ne__" 1 _) (wpAny_pure ?_)
    refine wpAny_bind (m := cRoomFor _ _) (wpAny_cRoomFor hu ?_)
    refine wpAny_bind (m := callSpecialIfBound? (.ref x) (Str.ofString "__eq__") _) (ifBound_K X I he hf (wpAny_mono h (fun v s' hq => ?_) fun _ _ y => y))
    obtain ⟨r, rfl, q⟩ := hq
    refine wpAny_bind (wpAny_truthy_bool ?_)
    exact wpAny_pure (wpAny_pure ⟨_, rfl, q⟩)
  unfold richCompare
  simp only [oneThing_ref]
  refine wpAny_holding (wpAny_bind (wpAny_cRoomFor (by omega) ?_))
  refine wpAny_bind (I.type.here (wpAny_bind (hb.here ?_)))
  split
  · rename_i q
    have e : subIn K tb (.ref C) = some false := by
      rcases Bool.or_eq_true_iff.mp hn with e | e
      · rw [beq_iff_eq.mp e] at q; simp at q
      · exact beq_iff_eq.mp e
    refine wpAny_bind ((looks_subIn X e).here ?_)
    simp only [Bool.false_eq_true, if_false]
    refine wpAny_bind (wpAny_mono one (fun r s' z => ?_) fun _ _ e => e)
    obtain ⟨v, rfl, hq⟩ := z
    exact wpAny_pure hq
  · refine wpAny_bind (wpAny_pure ?_)
    simp only [Bool.false_eq_true, if_false]
    refine wpAny_bind (wpAny_mono one (fun r s' z => ?_) fun _ _ e => e)
    obtain ⟨v, rfl, hq⟩ := z
    exact wpAny_pure hq
/-- the own == that declines, then the other side declines: not the same object -/
theorem own_eqN {b tb : Value} {Q : Value → Shared → Prop} (hu : A.units < cLine) (F : Fr h₀ L s.heap m) (X₀ : K.In h₀) (I : InstAt s.heap x ox C od) (hb : Looks (model prog w) s.heap (typeOf b) tb) (hne : (Value.ref C == tb) = false) (hn : subIn K tb (.ref C) = some false)
    (he : findIn K (.ref C) "__eq__" = some (some (.ref f))) (hf : isFn K (.ref f) = true)
    (h : wpAny (model prog w) A (call (.ref f) [.ref x, b]) (fun v s' => v = .notImplemented ∧ wpAny (model prog w) A (tryCompare b "__eq__" (.ref x)) (fun r s2 => r = none ∧ wpAny (model prog w) A (isSame (.ref x) b) (fun k s3 => Q (.bool k) s3) E s2) E s') E s) :
    wpAny (model prog w) A (richCompare .Eq (.ref x) b) Q E s := by
  have X := X₀.keeps F.keep
  have one : wpAny (model prog w) A (tryCompare (.ref x) "__eq__" b) (fun r s' => r = none ∧ wpAny (model prog w) A (tryCompare b "__eq__" (.ref x)) (fun r s2 => r = none ∧ wpAny (model prog w) A (isSame (.ref x) b) (fun k s3 => Q (.bool k) s3) E s2) E s') E s := by
    unfold tryCompare
    refine wpAny_bind (ifBound_K X I he hf (wpAny_mono h (fun v s' hv => ?_) fun _ _ e => e))
    obtain ⟨rfl, hv⟩ := hv
    exact wpAny_pure ⟨rfl, hv⟩
  unfold richCompare
  simp only [oneThing_ref]
  refine wpAny_holding (wpAny_bind (wpAny_cRoomFor hu ?_))
  refine wpAny_bind (I.type.here (wpAny_bind (hb.here ?_)))
  rw [show (Value.ref C != tb) = true from by rw [bne, hne]; rfl]
  simp only [if_true]
  refine wpAny_bind ((looks_subIn X hn).here ?_)
  simp only [Bool.false_eq_true, if_false, Bool.not_false, if_true]
  refine wpAny_bind (wpAny_mono one (fun r s' z => ?_) fun _ _ e => e)
  obtain ⟨rfl, z⟩ := z
  refine wpAny_bind (wpAny_mono z (fun r s2 z => ?_) fun _ _ e => e)
  obtain ⟨rfl, z⟩ := z
  exact wpAny_bind (wpAny_rule (wpAny_bind (wpAny_mono z (fun k s3 z => wpAny_pure z) fun _ _ e => e)))
theorem str_declines (b : Str) (u : Tok) (l : Addr) (c : Value) (dd : Option Addr) (sl : Array (Option Value)) :
    Meets (Builtin.«str.__eq__» ⟨[.str b u, .ref l], []⟩) (fun _ R s => s.heap.get? l = some { cls := c, dict := dd, data := .plain, slots := sl } ∧ R (.ok (.ret .notImplemented)) s) :=
  .of_wp fun prog w A R s h => by obtain ⟨hp, g, d, tk, os⟩ := s; obtain ⟨hl, h⟩ := h; wp_walk using wpAny_loadPart' hl, wpAny_load hl; exact ⟨_, rfl, h⟩
theorem none_declines (l : Addr) : Gives (Builtin.«NoneType.__eq__» ⟨[.none, .ref l], []⟩) (.val (Value.notImplemented)) :=
  .of_wp fun M A E s Q h => by obtain ⟨hp, g, d, tk, os⟩ := s; wp_walk; exact ⟨_, rfl, h⟩
end
theorem inst_not {M : Model} {A : Around} {E : Value → Shared → Prop} {s : Shared} {K : Frag} {x C : Addr} {ox : Obj} {od : Option Obj} {T : String} {Q : Bool → Shared → Prop} (X : K.In s.heap) (I : InstAt s.heap x ox C od) (hs : subIn K (.ref C) (.type T) = some false) (q : Q false s) :
    wpAny M A (isInstance (.ref x) (.type T)) Q E s := by
  have l : Looks M s.heap (isInstance (.ref x) (.type T)) false := I.type.andThen (looks_subIn X hs)
  exact l.here q
theorem tuple_declines {M : Model} {A : Around} {E : Value → Shared → Prop} {s : Shared} {t x : Addr} {Q : Fin → Shared → Prop} (hi : ∀ (Q : Bool → Shared → Prop), Q false s → wpAny M A (isInstance (.ref x) (.type "tuple")) Q E s) (q : Q (.done (.ret .notImplemented)) s) :
    wpAny M A (Builtin.«tuple.__eq__» ⟨[.ref t, .ref x], []⟩) Q E s := by
  obtain ⟨hp, g, d, tk, os⟩ := s
  wp_walk using hi

  exact q
end TkO
namespace Tk
open PySem PySem.Spec PyProof.Rows L2
/-- an own method, as the operators call it -/
def OM (P : Program) (w : World) (K : PySem.W.Frag) (mg : Str → Option Value) (base : Heap) (k : Nat) (C : Addr) (m : Str) (sp : Sp) : Prop :=
  ∃ g, PySem.W.findIn K (.ref C) m = some (some (.ref g)) ∧ PySem.W.isFn K (.ref g) = true ∧ FnR P w K mg base (L2.CX P w) k g sp
theorem Mth.om {P : Program} {w : World} {K : PySem.W.Frag} {mg : Str → Option Value} {base : Heap} {k : Nat} {C : Addr} {m : Str} {sp : Sp} (h : Mth P w K mg base k C m sp []) : OM P w K mg base k C m sp := by
  obtain ⟨_, f, fd, ps, ds, F, hm, hb, hv⟩ := h
  exact ⟨f, hm.at_, hm.fn, (F.raw hb hv).imp fun vs H Q E q => by rw [List.append_nil]; exact q⟩
section
variable {X : Cx} {pins : List (Addr × Obj)} {σ : L2.St} {H : Hp} {s : Shared} {x y : V} {u v : Value} {g : Tag} {a C dx : Addr} {fs : List (Str × V)} {k j : Nat} {sp : Sp} {E : XK}
/-- a value's type, looked up -/
theorem Is.looks {M : Model} (I : Inv X pins σ H s) (h : Is X.K H y g) (r : RelV y u) : PySem.W.Looks M s.heap (typeOf u) g.ty := by
  have at_ : ∀ {b : Addr} {o : Obj} {t : Value}, s.heap.get? b = some o → o.cls = t → PySem.W.Looks M s.heap (typeOf (.ref b)) t := fun e c A Q E s' k q => wpAny_typeOf_ref (k _ _ e) (by rw [c]; exact q)
  cases h with
  | non => cases (show u = Value.none from r); exact PySem.W.Looks.of_pure rfl
  | bl b => cases (show u = Value.bool b from r); exact PySem.W.Looks.of_pure rfl
  | int i => obtain ⟨t, rfl⟩ := (show ∃ t, u = Value.int i t from r); exact PySem.W.Looks.of_pure rfl
  | str z => obtain ⟨t, rfl⟩ := (show ∃ t, u = Value.str z t from r); exact PySem.W.Looks.of_pure rfl
  | @lst b xs e =>
    cases (show u = Value.ref b from r)
    obtain ⟨_, _, n, _, h1⟩ := (show ObjOk X.prog X.w H s.heap b (.lst xs) from I.hok b _ e)
    exact at_ h1 rfl
  | @tup b xs e =>
    cases (show u = Value.ref b from r)
    obtain ⟨_, _, _, o, h1, h2, _⟩ := (show ObjOk X.prog X.w H s.heap b (.tup xs) from I.hok b _ e)
    exact at_ h1 h2
  | @dct b kvs e =>
    cases (show u = Value.ref b from r)
    obtain ⟨_, _, vs, _, o, es, ep, h1, h2, _⟩ := (show ObjOk X.prog X.w H s.heap b (.dK kvs) from I.hok b _ e)
    exact at_ h1 h2.1
  | @own b C dx fs e c =>
    cases (show u = Value.ref b from r)
    obtain ⟨mA, O, _⟩ := ins_get I.hok e
    obtain ⟨od, J, _⟩ := O.look
    exact J.type
theorem runO {A : Around} {Q : VK} {us : List Value} {ws : List V} {f : Addr} (F : FnR X.prog X.w X.K X.mg X.base (L2.CX X.prog X.w) k f sp) (hr : Room k A) (e0 : Env0 X.prog X.w X.K X.mg X.base A X.stack s H) (hx : Passes (L2.CX X.prog X.w) X E) (I : Inv X pins σ H s) (r : Vals ws us) (h : sp ws H Q E) :
    wpAny (model X.prog X.w) A (call (.ref f) us) (EP X pins σ Q) X.xe s := wpAny_call (SlX.run_at F hr e0 hx I r h)
/-- one + y, one - y, one an own object -/
def rOwnBin (K : PySem.W.Frag) (C : Addr) (sp : Sp) (E : XK) : R2 := fun x y H Q => ∃ a dx fs g, x = .ref a ∧ H a = some (.ins C dx fs) ∧ Is K H y g ∧ (∀ D, g = .own D → D = C) ∧ sp [x, y] H Q E
def plainTys : List String := ["NoneType", "bool", "int", "str", "list", "tuple", "dict"]
structure OwnBin (K : PySem.W.Frag) (C : Addr) (nm : String) : Prop where
  bin : ∀ f : Addr, PySem.W.findIn K (.ref C) (PySem.dunder nm) = some (some (.ref f)) → PySem.W.isFn K (.ref f) = true → TkO.BinC K C f nm
  tys : ∀ T ∈ plainTys, TkO.BinT K C nm T
theorem oOwnBin {op : Operator} (O : OM X.prog X.w X.K X.mg X.base k C (PySem.dunder op.info.2) sp) (B : OwnBin X.K C op.info.2) (hr : Room j X.A) (hk : k ≤ j) (hx : Passes (L2.CX X.prog X.w) X E) : OpR X (binaryOp op) (rOwnBin X.K C sp E) := by
  intro pins s σ H x y v u Q I rx ry h
  obtain ⟨a, dx, fs, g, rfl, ha, iy, one, q⟩ := h
  obtain ⟨f, hf, hfn, F⟩ := O
  cases (show v = Value.ref a from rx)
  obtain ⟨mA, J, _⟩ := ins_get I.hok ha
  obtain ⟨od, J, _⟩ := J.look
  obtain ⟨m, hF⟩ := I.fr
  have lk := iy.looks (M := model X.prog X.w) I ry
  have go : wpAny (model X.prog X.w) X.A (call (.ref f) [.ref a, u]) (PySem.W.CmpBack (EP X pins σ Q)) X.xe s :=
    wpAny_mono (runO (ws := [V.ref a, y]) F (hr.mono hk) I.env0 hx I (.cons rfl (.cons ry .nil)) q) (fun w s' z => by
      obtain ⟨z', H', I', rz, qz⟩ := z
      exact SlX.cmpback rz ⟨z', H', I', rz, qz⟩) fun _ _ x => x
  have ty : ∀ T ∈ plainTys, g.ty = .type T → wpAny (model X.prog X.w) X.A (binaryOp op (.ref a) u) (EP X pins σ Q) X.xe s := fun T hT e => by
    rw [e] at lk
    exact TkO.own_bin hF I.ok.mod.kin J lk (B.bin f hf hfn) (B.tys T hT) go
  cases g with
  | own D =>
    cases one D rfl
    exact PySem.W.binop_K hF I.ok.mod.kin J lk (B.bin f hf hfn).first hf hfn go
  | non => exact ty "NoneType" (by decide) rfl
  | bl => exact ty "bool" (by decide) rfl
  | int => exact ty "int" (by decide) rfl
  | str => exact ty "str" (by decide) rfl
  | lst => exact ty "list" (by decide) rfl
  | tup => exact ty "tuple" (by decide) rfl
  | dct => exact ty "dict" (by decide) rfl
/-- one == two, one < two .., both of the own class -/
def rOwnCmp (C : Addr) (sp : Sp) (E : XK) : R2 := fun x y H Q => ∃ a dx fs b dy gs, x = .ref a ∧ y = .ref b ∧ H a = some (.ins C dx fs) ∧ H b = some (.ins C dy gs) ∧ sp [x, y] H Q E
theorem oOwnCmp {op : CmpOp} (hop : ∀ a b, compareOp op a b = richCompare op a b) (O : OM X.prog X.w X.K X.mg X.base k C (cmpInfo op).2.1 sp) (hr : Room j X.A) (hk : k ≤ j) (hx : Passes (L2.CX X.prog X.w) X E) : OpR X (compareOp op) (rOwnCmp C sp E) := by
  intro pins s σ H x y v u Q I rx ry h
  obtain ⟨a, dx, fs, b, dy, gs, rfl, rfl, ha, hb, q⟩ := h
  obtain ⟨f, hf, hfn, F⟩ := O
  cases (show v = Value.ref a from rx)
  cases (show u = Value.ref b from ry)
  obtain ⟨mA, J, _⟩ := ins_get I.hok ha
  obtain ⟨od, J, _⟩ := J.look
  obtain ⟨mB, J', _⟩ := ins_get I.hok hb
  obtain ⟨od', J', _⟩ := J'.look
  obtain ⟨m, hF⟩ := I.fr
  rw [hop]
  refine PySem.W.cmp_K (op := op) (tb := .ref C) hr.units0 hF I.ok.mod.kin J J'.type (by simp [PySem.W.notFirst]) hf hfn ?_
  refine wpAny_mono (runO (ws := [V.ref a, V.ref b]) F (hr.mono hk) I.env0 hx I (.cons rfl (.cons rfl .nil)) q) (fun w s' z => ?_) fun _ _ x => x
  obtain ⟨z', H', I', rz, qz⟩ := z
  exact SlX.cmpback rz ⟨z', H', I', rz, qz⟩
/-- one != two, by the own == -/
def rOwnNe (C : Addr) (sp : Sp) (E : XK) : R2 := fun x y H Q => ∃ a dx fs b dy gs, x = .ref a ∧ y = .ref b ∧ H a = some (.ins C dx fs) ∧ H b = some (.ins C dy gs) ∧ sp [x, y] H (kB fun r H1 => Q (.bl (!r)) H1) E
theorem oOwnNe (O : OM X.prog X.w X.K X.mg X.base k C "__eq__" sp) (hne : PySem.W.findIn X.K (.ref C) "__ne__" = some (some (.builtin "object.__ne__"))) (hm : PySem.W.mroIn X.K C (.type "object") = some true) (hr : Room j X.A) (hk : k + 1 ≤ j) (hx : Passes (L2.CX X.prog X.w) X E) :
    OpR X (compareOp .NotEq) (rOwnNe C sp E) := by
  intro pins s σ H x y v u Q I rx ry h
  obtain ⟨a, dx, fs, b, dy, gs, rfl, rfl, ha, hb, q⟩ := h
  obtain ⟨f, hf, hfn, F⟩ := O
  cases (show v = Value.ref a from rx)
  cases (show u = Value.ref b from ry)
  obtain ⟨mA, J, _⟩ := ins_get I.hok ha
  obtain ⟨od, J, _⟩ := J.look
  obtain ⟨mB, J', _⟩ := ins_get I.hok hb
  obtain ⟨od', J', _⟩ := J'.look
  obtain ⟨m, hF⟩ := I.fr
  show wpAny _ _ (richCompare .NotEq _ _) _ _ _
  refine TkO.own_ne (tb := .ref C) (by have := hr.un; omega) hF I.ok.mod.kin J J'.type (by simp [PySem.W.notFirst]) hf hfn hne hm ?_
  refine wpAny_mono (runO (ws := [V.ref a, V.ref b]) F (hr.mono hk).in1 I.env0.in1 hx I (.cons rfl (.cons rfl .nil)) q) (fun w s' z => ?_) fun _ _ x => x
  obtain ⟨z', H', I', rz, r, ez, qz⟩ := z
  subst ez
  cases (show w = Value.bool r from rz)
  exact ⟨r, rfl, .bl (!r), H', I', rfl, qz⟩
/-- str(one), by the own __str__ -/
def rStrOwn (C : Addr) (sp : Sp) (E : XK) : RC := fun xs H Q => ∃ a dx fs, xs = [.ref a] ∧ H a = some (.ins C dx fs) ∧ sp [.ref a] H (fun z H' => ∃ y : Str, z = .str y ∧ Q z H') E
theorem call_strOwn (O : OM X.prog X.w X.K X.mg X.base k C "__str__" sp) (hr : Room j X.A) (hk : k + 2 ≤ j) (hx : Passes (L2.CX X.prog X.w) X E) : CallR X (.type "str") (rStrOwn C sp E) := by
  intro pins s σ H xs us Q I r h
  obtain ⟨a, dx, fs, rfl, ha, q⟩ := h
  obtain ⟨f, hf, hfn, F⟩ := O
  cases r with
  | cons r1 r2 =>
    cases r2
    rename_i u
    cases (show u = Value.ref a from r1)
    obtain ⟨mA, J, _⟩ := ins_get I.hok ha
    obtain ⟨od, J, _⟩ := J.look
    have hr2 : Room k X.A.in1.in1 := (show Room (k + 1) X.A.in1 from Room.in1 (hr.mono hk)).in1
    refine PySem.W.kso_call (by have := hr2.un; omega) I.kIn J hf hfn (wpAny_mono (runO (ws := [V.ref a]) F hr2 I.env0.in1.in1 hx I (.cons rfl .nil) q) (fun w s' z => ?_) fun _ _ x => x)
    obtain ⟨z', H', I', rz, y, ez, qz⟩ := z
    subst ez
    obtain ⟨t, e⟩ := (show ∃ t, w = Value.str y t from rz)
    subst e
    exact ⟨.str y, H', I', ⟨t, rfl⟩, qz⟩
end
end Tk
end
section
set_option linter.all false
set_option maxRecDepth 100000
set_option maxHeartbeats 4000000
namespace Tk
open PySem PySem.Spec PyProof.Rows L2
/-- a def that gives NotImplemented for such arguments -/
def NiR (P : Program) (w : World) (K : PySem.W.Frag) (mg : Str → Option Value) (base : Heap) (k : Nat) (g : Addr) (ok : List V → Hp → Prop) : Prop :=
  ∀ (A : Around) (outer : List Env) (s : Shared) (H : Hp) (us : List Value) (vs : List V), Room k A → Env0 P w K mg base A outer s H → Vals vs us → ok vs H →
    codeAny (model P w) A (.call (.ref g) ⟨us, []⟩) (fun r s' => r = .ok (.ret .notImplemented) ∧ CE outer P w H s (fun v H' => v = .non ∧ Ext H H') .none s') s
/-- such a body: it ends so -/
def NiB (X : Cx) (body : List Stmt) (t : L2.St → Hp → Prop) : Prop :=
  ∀ (s : Shared) (σ : L2.St) (H : Hp), Inv X [] σ H s → t σ H → wpAny (model X.prog X.w) X.A (execs body X.env) (fun fl s' => fl = .ret .notImplemented ∧ ∃ σ' H', Inv X [] σ' H' s' ∧ Ext X.H_0 H') X.xe s
/-- entering a def: what its body answers, told of the call -/
theorem entered {P : Program} {w : World} {K : PySem.W.Frag} {mg : Str → Option Value} {base : Heap} {x qual : Str} {params : Arguments} {body : List Stmt} {scope : Scope} {dvs : List V} {kws : List (Str × V)} {f : Addr} {fd : FuncData} {N ps : List Str} {k : Nat}
    {A : Around} {outer : List Env} {s : Shared} {H : Hp} {us : List Value} {vs : List V} {R : Result → Shared → Prop} (F : FunD K x qual params body scope dvs kws f fd) (S : FnScope N ps scope) (bind : BindsTo s fd ⟨us, []⟩ (ps.zip us)) (room : Room (k + 1) A) (env : Env0 P w K mg base A outer s H)
    (rel : Vals vs us) (count : vs.length = ps.length)
    (go : ∀ (cdv : Value) (s1 : Shared), Room k (A.deeper (envOfC qual scope s.heap.objs.size f cdv)) → Inv (cxOf (L2.CX P w) P w K mg base N qual scope f cdv A outer s H E0) [] (start N vs) H s1 →
      wpAny (model P w) (A.deeper (envOfC qual scope s.heap.objs.size f cdv)) (execs body (envOfC qual scope s.heap.objs.size f cdv)) (fun fl s' => ∃ u, fl = .ret u ∧ R (.ok (.ret u)) s') (fun _ _ => False) s1) : codeAny (model P w) A (.call (.ref f) ⟨us, []⟩) R s := by
  obtain ⟨_, _, _, _, _, _, _, cdv, _, _, rfl, at_, code, _, _⟩ := F.ex
  have stands : ∀ b o, base.get? b = some o → s.heap.get? b = some o := fun b o e => (env.bs b o e).1
  have frag : K.In s.heap := env.mod.kin.keeps stands
  refine codeAny_call_function room.depth (frag _ _ at_) rfl S.co S.gen rfl (PySem.W.codeRec_of frag code) (bind _ _ _ _ (wpAny_newFunctionEnv_cells S.kind ?_ ?_))
  · rintro ⟨y, _⟩ m
    exact (S.par y (List.of_mem_zip m).1).imp id fun cell => ⟨cell, PySem.W.cellsFrom_some _ _ _ (.inl cell)⟩
  · rintro _ rfl s1 laid
    refine ⟨(env.mod.nolimit.keeps stands).keeps laid.toInCall.keep, codeAny_func (wpAny_mono (go cdv s1 (room.deeper _) (inv_start S room.hd env count rel laid)) ?_ fun _ _ z => z.elim)⟩
    rintro _ s' ⟨u, rfl, r⟩
    exact r
theorem ni_of {P : Program} {w : World} {K : PySem.W.Frag} {mg : Str → Option Value} {base : Heap} {x qual : Str} {params : Arguments} {body : List Stmt} {scope : Scope} {dvs : List V} {kws : List (Str × V)} {f : Addr} {fd : FuncData} {N ps : List Str} {k : Nat} {ok : List V → Hp → Prop}
    (F : FunD K x qual params body scope dvs kws f fd) (S : FnScope N ps scope) (hb : Binds K fd ps []) (len : ∀ vs H, ok vs H → vs.length = ps.length)
    (hbody : ∀ (cdv : Value) (A : Around) (outer : List Env) (s : Shared) (H : Hp) (vs : List V), Room k (A.deeper (envOfC qual scope s.heap.objs.size f cdv)) → ok vs H →
      ∃ t, NiB (cxOf (L2.CX P w) P w K mg base N qual scope f cdv A outer s H E0).nox body t ∧ t (start N vs) H) : NiR P w K mg base (k + 1) f ok := by
  intro A outer s H us vs room env rel h
  have count := len vs H h
  have bind : BindsTo s fd ⟨us, []⟩ (ps.zip us) := by
    simpa only [List.append_nil] using hb s us (env.mod.kin.keeps fun b o e => (env.bs b o e).1) (by simpa only [List.append_nil] using rel.length.symm.trans count)
  refine entered F S bind room env rel count fun cdv s1 room' I => ?_
  obtain ⟨t, runs, q⟩ := hbody cdv A outer s H vs room' h
  refine wpAny_mono (runs s1 _ H (I.wish _) q) ?_ fun _ _ z => z.elim
  rintro _ s' ⟨rfl, _, H', J, e⟩
  exact ⟨_, rfl, rfl, .non, H', J.os, J.bare, J.base, J.hok, rfl, rfl, e⟩
/-- if not t: return NotImplemented, then the rest -/
theorem nib_if {X : Cx} {c : Expr} {tc : TT} {p1 p2 p3 : Pos} {rest : List Stmt} (hc : PT X c tc) (hg : Gl X "NotImplemented") (hm : X.mg "NotImplemented" = none) :
    NiB X (.If c [.Return (some (.Name "NotImplemented" p1)) p2] [] p3 :: rest) (fun σ H => tc σ H fun b H1 => b = true ∧ Ext X.H_0 H1) := by
  intro s σ H I h
  refine wpAny_execs_cons (wpAny_If (thn (hc.run [] s σ H _ I h) fun d s1 ⟨H1, I1, q1, e1⟩ => ?_))
  subst q1
  show wpAny _ _ (execs [.Return (some (.Name "NotImplemented" p1)) p2] X.env) _ _ _
  refine wpAny_execs_cons (wpAny_Return_some (ld_blt (u := .notImplemented) I1 hg hm (by decide +kernel) ?_))
  exact ⟨rfl, σ, H1, I1, e1⟩
/-- one == y, y of another kind: not equal -/
def rEqOff (K : PySem.W.Frag) (C : Addr) (ok : List V → Hp → Prop) : R2 := fun x y H Q => ∃ a dx fs g, x = .ref a ∧ H a = some (.ins C dx fs) ∧ Is K H y g ∧ (g = .str ∨ g = .tup ∨ g = .non) ∧ ok [x, y] H ∧ ∀ H', Ext H H' → Q (.bl false) H'
structure OffC (K : PySem.W.Frag) (C : Addr) : Prop where
  up : ∀ T ∈ plainTys, PySem.W.subIn K (.type T) (.ref C) = some false
  tup : PySem.W.subIn K (.ref C) (.type "tuple") = some false
theorem oEqOff {X : Cx} {k j : Nat} {C : Addr} {ok : List V → Hp → Prop} (O : ∃ g, PySem.W.findIn X.K (.ref C) "__eq__" = some (some (.ref g)) ∧ PySem.W.isFn X.K (.ref g) = true ∧ NiR X.prog X.w X.K X.mg X.base k g ok) (B : OffC X.K C) (hr : Room j X.A) (hk : k ≤ j) :
    OpR X (compareOp .Eq) (rEqOff X.K C ok) := by
  intro pins s σ H x y v u Q I rx ry h
  obtain ⟨a, dx, fs, g, rfl, ha, iy, hg, ho, q⟩ := h
  obtain ⟨f, hf, hfn, F⟩ := O
  cases (show v = Value.ref a from rx)
  obtain ⟨mA, J, _⟩ := ins_get I.hok ha
  obtain ⟨od, J, _⟩ := J.look
  obtain ⟨m, hF⟩ := I.fr
  have lk := iy.looks (M := model X.prog X.w) I ry
  have go : ∀ (R : Value → Shared → Prop), (∀ s' H', Inv X pins σ H' s' → Ext H H' → R .notImplemented s') → wpAny (model X.prog X.w) X.A (call (.ref f) [.ref a, u]) R X.xe s := fun R hR => by
    refine wpAny_call (codeAny_mono (F X.A X.stack s H [.ref a, u] [.ref a, y] (hr.mono hk) I.env0 (.cons rfl (.cons ry .nil)) ho) fun r s' hq => ?_)
    obtain ⟨rfl, ce⟩ := hq
    obtain ⟨v', H', I', _, _, ex⟩ := I.after ce
    exact hR s' H' I' ex
  have un : X.A.units < cLine := hr.units0
  show wpAny _ _ (richCompare .Eq _ _) _ _ _
  have fin : ∀ T ∈ plainTys, g.ty = .type T → (∀ s' H', Inv X pins σ H' s' → Ext H H' → wpAny (model X.prog X.w) X.A (tryCompare u "__eq__" (.ref a)) (fun r s2 => r = none ∧ wpAny (model X.prog X.w) X.A (isSame (.ref a) u) (fun k s3 => EP X pins σ Q (.bool k) s3) X.xe s2) X.xe s') →
      wpAny (model X.prog X.w) X.A (richCompare .Eq (.ref a) u) (EP X pins σ Q) X.xe s := fun T hT e hz => by
    rw [e] at lk
    exact TkO.own_eqN un hF I.ok.mod.kin J lk (Bool.eq_false_iff.mpr fun q => by cases beq_iff_eq.mp q) (B.up T hT) hf hfn (go _ fun s' H' I' ex => ⟨rfl, hz s' H' I' ex⟩)
  have insAt : ∀ {s' : Shared} {H' : Hp}, Inv X pins σ H' s' → Ext H H' → s'.heap.get? a = some (PySem.W.instObj C dx) := fun I' ex => by
    obtain ⟨mA', O, _⟩ := ins_get I'.hok (ex _ _ ha)
    exact O.1
  have is_ : ∀ {s' : Shared} {H' : Hp} (_ : Inv X pins σ H' s') (_ : Ext H H') (hs : plainIs (.ref a) u = true) (_ : (Value.ref a == u) = false), wpAny (model X.prog X.w) X.A (isSame (.ref a) u) (fun k s3 => EP X pins σ Q (.bool k) s3) X.xe s' := fun I' ex hs hne =>
    PySem.wpAny_isSame_plain hs (by rw [hne]; exact ⟨.bl false, _, I', rfl, q _ ex⟩)
  rcases hg with rfl | rfl | rfl
  · refine fin "str" (by decide) rfl fun s' H' I' ex => ?_
    cases iy with
    | str z =>
      obtain ⟨t, rfl⟩ := (show ∃ t, u = Value.str z t from ry)
      refine wpAny_tryCompare_declines (typeIs_str s' z t) PySem.F.slot_str_eq_refl (call_meets PySem.F.slot_str_eq_refl (typeIs_str s' z t) PySem.F.entry_str_eq (PySem.F.args_str_eq_2 _ _) (TkO.str_declines z t a (.ref C) (some dx) #[]) ⟨insAt I' ex, rfl, rfl, ?_⟩)
      exact is_ I' ex rfl rfl
  · refine fin "tuple" (by decide) rfl fun s' H' I' ex => ?_
    cases iy with
    | @tup b xs eb =>
      cases (show u = Value.ref b from ry)
      obtain ⟨_, _, _, o, h1, h2, _⟩ := (show ObjOk X.prog X.w H' s'.heap b (.tup xs) from I'.hok b _ (ex _ _ eb))
      have hT : s'.TypeIs (.ref b) "tuple" := ⟨o, h1, h2⟩
      obtain ⟨mA', J', _⟩ := ins_get I'.hok (ex _ _ ha)
      obtain ⟨od', J', _⟩ := J'.look
      have ne : a ≠ b := fun z => by rw [z, eb] at ha; cases ha
      have hx := insAt I' ex
      refine wpAny_tryCompare_declines hT PySem.F.slot_tuple_eq_refl (wpAny_call (codeAny_call_builtin PySem.F.slot_tuple_eq_refl.plain PySem.F.entry_tuple_eq (PySem.F.slot_tuple_eq_refl.check _ _ _ _ _ _ _ _ hT (PySem.F.args_tuple_eq_2 _ _) (TkO.tuple_declines (fun Q q => TkO.inst_not I'.kIn J' B.tup q) ?_))))
      refine ⟨rfl, rfl, ?_⟩
      refine PySem.wpAny_isSame_ref_other ne hx h1 (fun z => nomatch z) ⟨.bl false, _, I', rfl, q _ ex⟩
  · refine fin "NoneType" (by decide) rfl fun s' H' I' ex => ?_
    cases iy with
    | non =>
      cases (show u = Value.none from ry)
      refine wpAny_tryCompare_declines (T := "NoneType") rfl PySem.F.slot_NoneType_eq_refl (call_gives PySem.F.slot_NoneType_eq_refl rfl PySem.F.entry_NoneType_eq (PySem.F.args_NoneType_eq_2 _ _) (TkO.none_declines a) ⟨rfl, rfl, ?_⟩)
      exact is_ I' ex rfl rfl
end Tk
end
section
set_option linter.all false
set_option maxRecDepth 100000
set_option maxHeartbeats 4000000
namespace Tk
open PySem PySem.Spec PyProof.Rows L2
/-! ### static methods off a class; keywords without positional values -/
structure StA (K : PySem.W.Frag) (C : Addr) (m : Str) (f : Addr) : Prop where
  at_ : ∃ mc p rest, ClX.CRead K C mc ∧ PySem.W.typeIn K (.ref C) = some mc ∧ PySem.W.findCls K (.ref C) mc m = some (.get (.builtin "staticmethod.__get__") (.ref p) .none (.ref C)) ∧ PySem.W.recIn K p "staticmethod" = some (.ref f :: rest)
  kp : PySem.W.keepIn K (.ref f) = true
def StC (P : Program) (w : World) (K : PySem.W.Frag) (mg : Str → Option Value) (base : Heap) (k : Nat) (C : Addr) (m : Str) (sp : Sp) : Prop :=
  ∃ f fd ps, FnOk P w K mg base (L2.CX P w) k f fd ps sp ∧ StA K C m f ∧ Binds K fd ps []
def StK (P : Program) (w : World) (K : PySem.W.Frag) (mg : Str → Option Value) (base : Heap) (k : Nat) (C : Addr) (m : Str) (sp : Sp) (ks : List Str) : Prop :=
  ∃ f fd ps g gV, FnOk P w K mg base (L2.CX P w) k f fd ps sp ∧ StA K C m f ∧ KBn K fd ps 0 ks g gV ∧ ∀ zs : List V, zs.length = ks.length → gV [] zs = zs
def MtK (P : Program) (w : World) (K : PySem.W.Frag) (mg : Str → Option Value) (base : Heap) (k : Nat) (C : Addr) (m : Str) (sp : Sp) (ks : List Str) : Prop :=
  Cls K C ∧ ∃ f fd ps g gV, FnOk P w K mg base (L2.CX P w) k f fd ps sp ∧ Meth K C m f ∧ KBn K fd ps 1 ks g gV ∧ ∀ (x : V) (zs : List V), zs.length = ks.length → gV [x] zs = x :: zs
def MkK (P : Program) (w : World) (K : PySem.W.Frag) (mg : Str → Option Value) (base : Heap) (k : Nat) (x : Str) (C : Addr) (sp : Sp) (ks : List Str) (pm : List V → List V) : Prop :=
  ∃ f fd ps g gV, FnOk P w K mg base (L2.CX P w) k f fd ps sp ∧ Mk K C f ∧ mg x = some (.ref C) ∧ KBn K fd ps 1 ks g gV ∧ ∀ (x : V) (zs : List V), zs.length = ks.length → gV [x] zs = x :: pm zs
/-- C.m(e, ..), m a static method -/
def tSt (C : Addr) (sp : Sp) (E : XK) (ta : TE) (t : TA) : TE := fun σ H Q => ta σ H fun x H1 => x = .ref C ∧ t σ H1 fun vs H2 => sp vs H2 Q E
def tStK (C : Addr) (n : Nat) (sp : Sp) (E : XK) (ta : TE) (t : TA) : TE := fun σ H Q => ta σ H fun x H1 => x = .ref C ∧ t σ H1 fun vs H2 => vs.length = n ∧ sp vs H2 Q E
def tMtK (C : Addr) (m : Str) (n : Nat) (sp : Sp) (E : XK) (ta : TE) (t : TA) : TE := fun σ H Q => ta σ H fun x H1 => ∃ a dx fs, x = .ref a ∧ H1 a = some (.ins C dx fs) ∧ fs.lookup m = none ∧ t σ H1 fun vs H2 => vs.length = n ∧ sp (x :: vs) H2 Q E
def tMkKw (C : Addr) (n : Nat) (sp : Sp) (pm : List V → List V) (E : XK) (t : TA) : TE := fun σ H Q => t σ H fun zs H2 => zs.length = n ∧ ∀ x dx, H2 x = none → H2 dx = none → dx ≠ x →
  sp (.ref x :: pm zs) (upd (upd H2 dx (.own x)) x (.ins C dx [])) (fun v H3 => v = .non ∧ Q (.ref x) H3) E
section
variable {X : Cx} {k j : Nat} {C : Addr} {m x : Str} {sp : Sp} {E : XK} {o e : Expr} {es : List Expr} {kws : List Keyword} {ta : TE} {t : TA} {p pos apos : Pos} {pl : Sem Bool} {ks : List Str} {pm : List V → List V}
theorem getst_ok {pins : List (Addr × Obj)} {σ : L2.St} {H : Hp} {s : Shared} {f : Addr} {Q : Value × List Value → Shared → Prop} (I : Inv X pins σ H s) (S : StA X.K C m f) (h : ∀ s', Inv X pins σ H s' → Q (.ref f, []) s') : wpAny (model X.prog X.w) X.A (getMethod (.ref C) m pl) Q X.xe s := by
  obtain ⟨mc, q, rest, cr, hm, e, hp⟩ := S.at_
  obtain ⟨mm, hF⟩ := I.fr
  exact PySem.W.method_cls I.kIn cr.ga (PySem.W.cls_sm hF I.ok.mod.kin hm cr.rd e hp rfl (h _ (I.tok _)))
theorem pe_st (c : StC X.prog X.w X.K X.mg X.base k C m sp) (hr : Room j X.A) (hk : k ≤ j) (hx : Passes (L2.CX X.prog X.w) X E) (he : PE X o ta) (ha : PA X (e :: es) t)
    (hst : starEach (e :: es) X.env = (false, eval e X.env) :: starEach es X.env := by rfl) (hpl : (backTo pos (starEach es X.env)).any (·.1) = false := by rfl)
    (ht : eval (.Call (.Attribute o m apos) (e :: es) [] pos) X.env = (do
      let ov ← eval o X.env
      standAt apos.atName
      let (f, first) ← holding [ov] (getMethod ov m pl)
      callWith pos f first (backTo pos (starEach (e :: es) X.env)) (backToKw pos (keywordEach [] X.env))) := by rfl) : PE X (.Call (.Attribute o m apos) (e :: es) [] pos) (tSt C sp E ta t) := by
  obtain ⟨f, fd, ps, F, S, hb⟩ := c
  refine ⟨fun pins s σ H Q I h => ?_⟩
  refine PySem.W.methodCall_KW (pl := pl) (thn (he.run pins s σ H _ I h) fun u s1 ⟨x, H1, I1, rx, ex, q⟩ => ?_) ht
  subst ex
  obtain rfl : u = Value.ref C := rx
  refine getst_ok I1 S fun s2 I2 => ?_
  refine PySem.W.callWith_K (first := []) (h₀ := X.base) I.ok.mod.kin S.kp (thn (ha.run pos pins s2 σ H1 _ I2 q) fun us s3 ⟨vs, H2, I3, r, q2⟩ => ⟨I3.kIn, ?_⟩) hst hpl
  exact run_fn (us := us) (vs := vs) (dvs := []) (ds := []) F (hr.mono hk) hb .nil hx I3 r (by rw [List.append_nil]; exact q2)
theorem pe_stK (c : StK X.prog X.w X.K X.mg X.base k C m sp ks) (hr : Room j X.A) (hk : k ≤ j) (hx : Passes (L2.CX X.prog X.w) X E) (he : PE X o ta) (hkw : PK X kws t)
    (hall : (backToKw pos (keywordEach kws X.env)).all (·.1.isSome) = true := by rfl) (hks : (backToKw pos (keywordEach kws X.env)).filterMap (·.1) = ks := by rfl)
    (hpl : ((backTo pos (starEach [] X.env)).any (·.1) || (backToKw pos (keywordEach kws X.env)).any (·.1.isNone)) = false := by rfl)
    (ht : eval (.Call (.Attribute o m apos) [] kws pos) X.env = (do
      let ov ← eval o X.env
      standAt apos.atName
      let (f, first) ← holding [ov] (getMethod ov m pl)
      callWith pos f first (backTo pos (starEach [] X.env)) (backToKw pos (keywordEach kws X.env))) := by rfl) : PE X (.Call (.Attribute o m apos) [] kws pos) (tStK C ks.length sp E ta t) := by
  obtain ⟨f, fd, ps, g, gV, F, S, hb, hg⟩ := c
  refine ⟨fun pins s σ H Q I h => ?_⟩
  refine PySem.W.methodCall_KW (pl := pl) (thn (he.run pins s σ H _ I h) fun u s1 ⟨x, H1, I1, rx, ex, q⟩ => ?_) ht
  subst ex
  obtain rfl : u = Value.ref C := rx
  refine getst_ok I1 S fun s2 I2 => ?_
  refine PySem.W.callWith_KW0 (first := []) (h₀ := X.base) I.ok.mod.kin S.kp hall ?_ hpl
  refine thn (hkw.run pos pins s2 σ H1 _ I2 q) fun ws s3 ⟨zs, H2, I3, rz, l2, q2⟩ => ⟨I3.kIn, ?_⟩
  rw [hks]
  exact run_fnN (us := []) (vs := []) F (hr.mono hk) hb hx I3 .nil rz rfl l2 (by rw [hg zs l2]; exact q2)
theorem pe_mtK (c : MtK X.prog X.w X.K X.mg X.base k C m sp ks) (hr : Room j X.A) (hk : k ≤ j) (hx : Passes (L2.CX X.prog X.w) X E) (he : PE X o ta) (hkw : PK X kws t)
    (hall : (backToKw pos (keywordEach kws X.env)).all (·.1.isSome) = true := by rfl) (hks : (backToKw pos (keywordEach kws X.env)).filterMap (·.1) = ks := by rfl)
    (hpl : ((backTo pos (starEach [] X.env)).any (·.1) || (backToKw pos (keywordEach kws X.env)).any (·.1.isNone)) = false := by rfl)
    (ht : eval (.Call (.Attribute o m apos) [] kws pos) X.env = (do
      let ov ← eval o X.env
      standAt apos.atName
      let (f, first) ← holding [ov] (getMethod ov m pl)
      callWith pos f first (backTo pos (starEach [] X.env)) (backToKw pos (keywordEach kws X.env))) := by rfl) : PE X (.Call (.Attribute o m apos) [] kws pos) (tMtK C m ks.length sp E ta t) := by
  obtain ⟨cl, f, fd, ps, g, gV, F, hm, hb, hg⟩ := c
  refine ⟨fun pins s σ H Q I h => ?_⟩
  refine PySem.W.methodCall_KW (pl := pl) (thn (he.run pins s σ H _ I h) fun u s1 ⟨x, H1, I1, rx, a, dx, fs, ex, ea, l, q⟩ => ?_) ht
  subst ex
  obtain rfl : u = Value.ref a := rx
  refine getmeth_ok I1 ea cl hm l ?_
  refine PySem.W.callWith_KW0 (first := [.ref a]) (h₀ := X.base) I.ok.mod.kin hm.kp hall ?_ hpl
  refine thn (hkw.run pos pins s1 σ H1 _ I1 q) fun ws s3 ⟨zs, H2, I3, rz, l2, q2⟩ => ⟨I3.kIn, ?_⟩
  rw [hks]
  exact run_fnN (us := [.ref a]) (vs := [.ref a]) F (hr.mono hk) hb hx I3 (.cons rfl .nil) rz rfl l2 (by rw [hg _ zs l2]; exact q2)
theorem pe_mkKw (c : MkK X.prog X.w X.K X.mg X.base k x C sp ks pm) (hr : Room j X.A) (hk : k + 1 ≤ j) (hg : Gl X x) (hx : Passes (L2.CX X.prog X.w) X E) (hkw : PK X kws t)
    (hall : (backToKw pos (keywordEach kws X.env)).all (·.1.isSome) = true := by rfl) (hks : (backToKw pos (keywordEach kws X.env)).filterMap (·.1) = ks := by rfl) (hdb : (x == ("__debug__" : Str)) = false := by decide)
    (hpl : ((backTo pos (starEach [] X.env)).any (·.1) || (backToKw pos (keywordEach kws X.env)).any (·.1.isNone)) = false := by rfl) : PE X (.Call (.Name x p) [] kws pos) (tMkKw C ks.length sp pm E t) := by
  obtain ⟨f, fd, ps, g, gV, F, M, hm, hb, hgV⟩ := c
  refine ⟨fun pins s σ H Q I h => ?_⟩
  refine wpAny_Call_Name_kw (ld_glob I hg hm ?_ hdb)
  refine PySem.W.callWith_KW0 (h₀ := X.base) I.ok.mod.kin M.kp hall ?_ hpl
  refine thn (hkw.run pos pins s σ H _ I h) fun ws s2 ⟨zs, H2, I2, rz, l2, q2⟩ => ⟨I2.kIn, ?_⟩
  rw [hks]
  exact run_makeK (us := []) (vs := []) M (F.mono (Nat.le_refl k)) (hr.mono hk) hb hx I2 .nil rz rfl l2 (fun x dx h1 h2 h3 => by rw [hgV _ zs l2]; exact q2 x dx h1 h2 h3)
end
section
variable {σ : L2.St} {H : Hp} {Q : VK} {C : Addr} {m : Str} {n : Nat} {sp : Sp} {E : XK} {ta : TE} {t : TA} {pm : List V → List V}
theorem s_st (q : ta σ H fun x H1 => x = .ref C ∧ t σ H1 fun vs H2 => sp vs H2 Q E) : tSt C sp E ta t σ H Q := q
theorem s_stK (q : ta σ H fun x H1 => x = .ref C ∧ t σ H1 fun vs H2 => vs.length = n ∧ sp vs H2 Q E) : tStK C n sp E ta t σ H Q := q
theorem s_mtK (q : ta σ H fun x H1 => ∃ a dx fs, x = .ref a ∧ H1 a = some (.ins C dx fs) ∧ fs.lookup m = none ∧ t σ H1 fun vs H2 => vs.length = n ∧ sp (x :: vs) H2 Q E) : tMtK C m n sp E ta t σ H Q := q
theorem s_mkKw (q : t σ H fun zs H2 => zs.length = n ∧ ∀ x dx, H2 x = none → H2 dx = none → dx ≠ x → sp (.ref x :: pm zs) (upd (upd H2 dx (.own x)) x (.ins C dx [])) (fun v H3 => v = .non ∧ Q (.ref x) H3) E) : tMkKw C n sp pm E t σ H Q := q
theorem s_meth (q : ta σ H fun x H1 => ∃ a dx fs, x = .ref a ∧ H1 a = some (.ins C dx fs) ∧ fs.lookup m = none ∧ t σ H1 fun vs H2 => sp (x :: (vs ++ [])) H2 Q E) : tMeth C m sp [] E ta t σ H Q := q
end
end Tk
end
section
set_option linter.all false
set_option maxRecDepth 100000
set_option maxHeartbeats 4000000
namespace Tk
open PySem PySem.Spec PyProof.Rows L2
/-! ### named: dict of pairs, text times int, zip -/
def rDictP (K : PySem.W.Frag) : RC := fun xs H Q => ∃ (a : Addr) (ps : List Addr) (kvs : List (Key × V)), xs = [.ref a] ∧ SqL K H a (ps.map V.ref) ∧ Paired (fun p kv => SqT K H p [kV kv.1, kv.2]) ps kvs ∧ ∀ p, H p = none → Q (.ref p) (upd H p (.dK (mergeK [] kvs)))
def rMulS : R2 := fun x y H Q => ∃ z n, x = .str z ∧ y = .int n ∧ 0 ≤ n ∧ n < 100000 ∧ z.length ≤ 1 ∧ Q (.str (Txt.mul z n)) H
section
variable {X : Cx}
theorem call_dictPN (h : X.calm = true) : CallR X (.type "dict") (rDictP X.K) := call_dictP h
theorem oMulS : OpR X (binaryOp .Mult) rMulS := by
  intro pins s σ H x y v u Q I rx ry h
  obtain ⟨z, n, rfl, rfl, h0, h1, hz, q⟩ := h
  obtain ⟨t, rfl⟩ := rx
  obtain ⟨t', rfl⟩ := ry
  refine SB.mul ⟨?_, fun hn hx => ?_, fun hn hx => ?_⟩ fun t'' k => ⟨.str (Txt.mul z n), H, I.tok _, ⟨_, rfl⟩, q⟩
  · rw [decide_eq_false (by omega), decide_eq_false (by omega)]; rfl
  · have : (1 : Int) ≤ (2 ^ 63 - 1) / n := (Int.le_ediv_iff_mul_le (by omega)).mpr (by omega)
    omega
  · have k : z.length * n.toNat ≤ 1 * n.toNat := Nat.mul_le_mul_right _ hz
    have e : (100000 : Nat) ≤ sizeLine := by decide
    show decide (z.length * n.toNat > sizeLine) = false
    exact decide_eq_false (by omega)
theorem fold_rep {c : Nat} : ∀ (k : Nat) (acc : Array Nat), ((List.replicate k (#[c] : Array Nat)).foldl (· ++ ·) acc).toList = acc.toList ++ List.replicate k c
  | 0, acc => by simp
  | k + 1, acc => by
    rw [List.replicate_succ, List.foldl_cons, fold_rep k, Array.toList_append, List.replicate_succ, List.append_assoc]
    rfl
/-- the signs of such a text -/
theorem mul_signs {z : Str} {n : Int} {c : Nat} (h0 : 1 ≤ n) (hz : z.cps = #[c]) : (Txt.mul z n).cps.toList = List.replicate n.toNat c := by
  unfold Txt.mul
  rw [if_neg (by omega)]
  by_cases h1 : n = 1
  · subst h1
    rw [if_pos (by rfl), hz]; rfl
  · have l1 : z.length = 1 := by unfold Str.length; rw [hz]; rfl
    have e : (n == 1 || z.length == 0) = false := by rw [l1, beq_eq_false_iff_ne.mpr h1]; rfl
    rw [if_neg (by rw [e]; exact Bool.false_ne_true), hz]
    exact (fold_rep _ _).trans (List.nil_append _)
end
end Tk
end
section
set_option linter.all false
set_option maxRecDepth 100000
set_option maxHeartbeats 4000000
namespace Tk
open PySem PySem.Spec PyProof.Rows L2 LamX
/-! ### heaps where code tables grow -/
/-- outside M all stays, but for tables -/
def UpN (M : List Addr) (H H' : Hp) : Prop := ∀ a o, a ∉ M → H a = some o → (∀ ps, o ≠ .tbl ps) → H' a = some o
section
variable {M N : List Addr} {H H' H1 H2 : Hp} {a p : Addr} {o : HO}
theorem UpN.refl : UpN M H H := fun _ _ _ e _ => e
theorem UpN.trans (e : UpN M H H1) (f : UpN M H1 H2) : UpN M H H2 := fun a o n h t => f a o n (e a o n h t) t
theorem Up.toN (e : Up M H H') : UpN M H H' := fun a o n h _ => e a o n h
theorem UpN.of (e : Ext H H') : UpN M H H' := fun a o _ h _ => e a o h
theorem UpN.ofN (e : ExtN H H') : UpN M H H' := fun a o _ h t => e a o h t
theorem UpN.mono (e : UpN M H H') (s : ∀ x ∈ M, x ∈ N) : UpN N H H' := fun a o n h => e a o (fun z => n (s a z)) h
theorem UpN.new (e : UpN M H H') (n : H' p = none) : UpN M H (upd H' p o) := e.trans (.of (ext_new n))
theorem upN_at (m : p ∈ M) : UpN M H (upd H p o) := (up_at m).toN
/-- what is in M is a list -/
def Lsts (M : List Addr) (H : Hp) : Prop := ∀ m ∈ M, ∃ xs, H m = some (.lst xs)
theorem UpN.ins (e : UpN M H H') (l : Lsts M H) {C dx : Addr} {fs : List (Str × V)} (h : H a = some (.ins C dx fs)) : H' a = some (.ins C dx fs) :=
  e _ _ (fun z => by obtain ⟨xs, k⟩ := l a z; rw [k] at h; cases h) h fun _ z => nomatch z
theorem UpN.tup (e : UpN M H H') (l : Lsts M H) {xs : List V} (h : H a = some (.tup xs)) : H' a = some (.tup xs) :=
  e _ _ (fun z => by obtain ⟨xs, k⟩ := l a z; rw [k] at h; cases h) h fun _ z => nomatch z
theorem UpN.dk (e : UpN M H H') (l : Lsts M H) {kvs : List (Key × V)} (h : H a = some (.dK kvs)) : H' a = some (.dK kvs) :=
  e _ _ (fun z => by obtain ⟨xs, k⟩ := l a z; rw [k] at h; cases h) h fun _ z => nomatch z
theorem UpN.lst (e : UpN M H H') (n : a ∉ M) {xs : List V} (h : H a = some (.lst xs)) : H' a = some (.lst xs) := e _ _ n h fun _ z => nomatch z
theorem tabs_up {T : List (Addr × Str)} (t : Tabs T H) (e : Up M H H') (l : Lsts M H) : Tabs T H' := fun p hp => by
  obtain ⟨ps, h1, h2, h3⟩ := t p hp
  have nl : ∀ {b : Addr} {o : HO}, H b = some o → (∀ xs, o ≠ .lst xs) → b ∉ M := fun hb ho z => by
    obtain ⟨xs, k⟩ := l _ z
    rw [k] at hb
    exact ho xs (Option.some.inj hb).symm
  refine ⟨ps, e _ _ (nl h1 fun _ z => nomatch z) h1, h2, fun pos cv hc => ?_⟩
  obtain ⟨c, e1, e2⟩ := h3 pos cv hc
  exact ⟨c, e1, e _ _ (nl e2 fun _ z => by unfold CodeO at z; cases z) e2⟩
end
/-- what the making of a lambda in a def asks of its code -/
def LamF (base : Heap) (mg : Str → Option Value) (cdv : Value) (q : Str) (Ts : List (Addr × Str)) : Prop := ∃ c P, cdv = .ref c ∧ TabB base mg c P ∧ (P, q) ∈ Ts ∧ ∀ p ∈ Ts, p.1 = P → p.2 = q
/-- a def's rule that knows its code -/
theorem okC {P : Program} {w : World} {K : PySem.W.Frag} {mg : Str → Option Value} {base : Heap} {x qual : Str} {params : Arguments} {body : List Stmt} {scope : Scope} {dvs : List V} {kws : List (Str × V)} {f : Addr} {fd : FuncData} {CX : CXT} {N ps : List Str} {k : Nat} {sp : Sp}
    (F : FunD K x qual params body scope dvs kws f fd) (S : FnScope N ps scope) (len : ∀ vs H Q E, sp vs H Q E → vs.length = ps.length)
    (hbody : ∀ (cdv : Value) (A : Around) (outer : List Env) (s : Shared) (H : Hp) (vs : List V) (Q : VK) (E : XK), fd.code = cdv → Room k (A.deeper (envOfC qual scope s.heap.objs.size f cdv)) → sp vs H Q E →
      ∃ t, PSs (cxOf CX P w K mg base N qual scope f cdv A outer s H E) body t ∧ t { nx := fun _ H' => Q .non H', rt := Q } (start N vs) H) : FnOk P w K mg base CX (k + 1) f fd ps sp := by
  obtain ⟨oc, od, dV, kV, doc, pm, an, cdv, ct, osl, rfl, lk, hcd, _, _⟩ := F.ex
  exact fn_of lk hcd S len fun A outer s H vs Q E hr hsp => hbody cdv A outer s H vs Q E rfl hr hsp
theorem lam_pass {X : Cx} {A : Around} {outer : List Env} {s : Shared} {H : Hp} {E : XK} {scope : Scope} {f c' : Addr} : Passes (L2.CX (lamCx X A outer s H E scope f c').prog (lamCx X A outer s H E scope f c').w) (lamCx X A outer s H E scope f c') E :=
  passes_call (W := fun cls d _ H => E cls d H) (takes_of rfl rfl rfl rfl) fun _ _ _ _ h => h
section
variable {σ : L2.St} {H : Hp} {Q : VK}
theorem s_lam {T : List (Addr × Str)} {TT : (XK → Hp → VK → Prop) → Hp → VK → Prop} {t : XK → TE} (h : Tabs T H) (q : ∀ H1, ExtN H H1 → Tabs T H1 → TT (fun E H' Q' => t E σ H' Q') H1 Q) : tLam T TT t σ H Q := ⟨h, q⟩
end
end Tk
end
section
set_option linter.all false
set_option maxRecDepth 100000
set_option maxHeartbeats 4000000
/-! the head's facts by one hook: defs by a path, a list of checks, code tables -/
namespace TkH
open PySem PySem.Spec PyProof.Rows L2 Tk
abbrev FnC : Type := Option (Str × Str × Arguments × FuncBody × Scope × Addr × List Str × Addr)
def fnC (K : PySem.W.Frag) (a : Addr) : FnC := match K.lookup a with
  | some ⟨_, _, .func fd, _⟩ => some (fd.name, fd.qualname, fd.params, fd.body, fd.scope, fd.globals, fd.closure.map (·.1), fd.builtins)
  | _ => none
/-- one def: where it stands -/
structure PD where
  at_ : PySem.W.Frag → Addr
  name : Str
  qual : Str
  params : Arguments
  body : List Stmt
  scope : Scope
  clo : List Str := []
  dfl : List V := []
def PD.val (d : PD) : FnC := some (d.name, d.qual, d.params, .stmts d.body, d.scope, mainGlobals, d.clo, builtinsNs)
def PD.ok (K : PySem.W.Frag) (d : PD) : Bool := PySem.W.keepIn K (.ref (d.at_ K)) && (match K.lookup (d.at_ K) with
  | some ⟨_, _, .func fd, _⟩ => PySem.W.codeIn K fd.code d.qual && He.dflB K fd.defaults d.dfl
  | _ => false)
theorem ba {a b : Bool} (h : (a && b) = true) : a = true ∧ b = true := Bool.and_eq_true_iff.mp h
theorem PD.clo_ {K : PySem.W.Frag} {d : PD} (e : fnC K (d.at_ K) = d.val) (c : d.ok K = true) : PySem.W.keepIn K (.ref (d.at_ K)) = true ∧ ∃ (oc : Value) (od : Option Addr) (dV kV doc pm : Value) (an : Option Addr) (cdv ct : Value) (osl : Array (Option Value)) (cl : List (Str × Addr)),
    K.lookup (d.at_ K) = some ⟨oc, od, .func { name := d.name, qualname := d.qual, params := d.params, body := .stmts d.body, scope := d.scope, globals := mainGlobals, closure := cl, defaults := dV, kwdefaults := kV, doc, pyModule := pm, annotations := an, code := cdv, closureTuple := ct, builtins := builtinsNs }, osl⟩ ∧
    cl.map (·.1) = d.clo ∧ PySem.W.codeIn K cdv d.qual = true ∧ DflV K dV d.dfl := by
  obtain ⟨kp, c2⟩ := ba c
  refine ⟨kp, ?_⟩
  unfold fnC at e
  cases q : K.lookup (d.at_ K) with
  | none => rw [q] at c2; cases c2
  | some o =>
    obtain ⟨oc, od, dt, osl⟩ := o
    rw [q] at c2 e
    cases dt with
    | func fd =>
      obtain ⟨n1, n2, n3, n4, n5, n6, n7, n8, n9, n10, n11, n12, n13, n14, n15⟩ := fd
      have e2 : (some (n1, n2, n3, n4, n5, n6, n7.map (·.1), n15) : FnC) = some (d.name, d.qual, d.params, .stmts d.body, d.scope, mainGlobals, d.clo, builtinsNs) := e
      simp only [Option.some.injEq, Prod.mk.injEq] at e2
      obtain ⟨h1, h2, h3, h4, h5, h6, h7, h8⟩ := e2
      subst h1 h2 h3 h4 h5 h6 h8
      obtain ⟨k1, k2⟩ := ba (show (PySem.W.codeIn K n13 d.qual && He.dflB K n8 d.dfl) = true from c2)
      exact ⟨oc, od, n8, n9, n10, n11, n12, n13, n14, osl, n7, rfl, h7, k1, He.dflB_ok k2⟩
    | _ => cases c2
theorem PD.funD {K : PySem.W.Frag} {d : PD} (e : fnC K (d.at_ K) = d.val) (c : d.ok K = true) (h0 : d.clo = []) : ∃ fd, FunD K d.name d.qual d.params d.body d.scope d.dfl [] (d.at_ K) fd := by
  obtain ⟨kp, oc, od, dV, kV, doc, pm, an, cdv, ct, osl, cl, lk, hc, hcd, hd⟩ := PD.clo_ e c
  rw [h0] at hc
  have : cl = [] := List.map_eq_nil_iff.mp hc
  subst this
  exact ⟨_, ⟨oc, od, dV, kV, doc, pm, an, cdv, ct, osl, rfl, lk, hcd, hd, .inl rfl⟩, kp⟩
/-! code objects -/
def codeA (K : PySem.W.Frag) (f : Addr) : Addr := match K.lookup f with
  | some ⟨_, _, .func fd, _⟩ => (match fd.code with
    | .ref c => c
    | _ => 0)
  | _ => 0
theorem codeA_eq {K : PySem.W.Frag} {f : Addr} {oc : Value} {od : Option Addr} {osl : Array (Option Value)} {fd : FuncData} {c : Addr} (lk : K.lookup f = some ⟨oc, od, .func fd, osl⟩) (e : fd.code = .ref c) : codeA K f = c := by
  unfold codeA
  rw [lk]
  show (match fd.code with | .ref c => c | _ => 0) = c
  rw [e]
def cT (K : PySem.W.Frag) (f : Addr) : Addr × Addr := (codeA K f, He.tabOf K (codeA K f))
def tabsB (g : Addr → Option Obj) (tf : List (PySem.W.Frag → Addr)) (K : PySem.W.Frag) : Bool := tf.all fun p => PySem.W.codeHdIn K (cT K (p K)).1 (cT K (p K)).2 && (match g (cT K (p K)).2 with
  | some o => He.emptyTab o
  | none => false)
abbrev AlH : Type := Bool × List FnC
def KOf (n : Nat) (g : Addr → Option Obj) : PySem.W.Frag := He.frT g (He.asD g n ++ [cStatics, sysModules])
def obsK (fn : List PD) (fs : List (PySem.W.Frag → Bool)) (tf : List (PySem.W.Frag → Addr)) (g : Addr → Option Obj) (K : PySem.W.Frag) : AlH := ((fs.all fun f => f K) && ((fn.all fun d => d.ok K) && tabsB g tf K), fn.map fun d => fnC K (d.at_ K))
def obsH (n : Nat) (fn : List PD) (fs : List (PySem.W.Frag → Bool)) (tf : List (PySem.W.Frag → Addr)) (g : Addr → Option Obj) : AlH := obsK fn fs tf g (KOf n g)
def valH (fn : List PD) : AlH := (true, fn.map PD.val)
structure SaysH (fn : List PD) (fs : List (PySem.W.Frag → Bool)) (tf : List (PySem.W.Frag → Addr)) (h : Heap) (K : PySem.W.Frag) : Prop where
  facts : ∀ f ∈ fs, f K = true
  defs : ∀ d ∈ fn, d.ok K = true ∧ fnC K (d.at_ K) = d.val
  hd : ∀ p ∈ tf, PySem.W.codeHdIn K (cT K (p K)).1 (cT K (p K)).2 = true
  out : ∀ p ∈ tf, K.lookup (cT K (p K)).2 = none
  empty : ∀ p ∈ tf, h.get? (cT K (p K)).2 = some { cls := .none, data := .fields #[] }
theorem map_mem {α β : Type} {f g : α → β} : ∀ {l : List α}, l.map f = l.map g → ∀ a ∈ l, f a = g a
  | [], _, a, h => nomatch h
  | x :: l, e, a, h => by
    have e' : f x :: l.map f = g x :: l.map g := e
    injection e' with e1 e2
    rcases List.mem_cons.mp h with rfl | h
    · exact e1
    · exact map_mem e2 a h
theorem saysH_of {n : Nat} {fn : List PD} {fs : List (PySem.W.Frag → Bool)} {tf : List (PySem.W.Frag → Addr)} {h : Heap} (e : obsH n fn fs tf h.get? = valH fn) : SaysH fn fs tf h (KOf n h.get?) := by
  have e1 : ((fs.all fun f => f (KOf n h.get?)) && ((fn.all fun d => d.ok (KOf n h.get?)) && tabsB h.get? tf (KOf n h.get?))) = true := congrArg (fun z : AlH => z.1) e
  have e2 : fn.map (fun d => fnC (KOf n h.get?) (d.at_ (KOf n h.get?))) = fn.map PD.val := congrArg (fun z : AlH => z.2) e
  obtain ⟨h1, h2⟩ := ba e1
  obtain ⟨h3, h4⟩ := ba h2
  have key : ∀ p ∈ tf, PySem.W.codeHdIn (KOf n h.get?) (cT (KOf n h.get?) (p (KOf n h.get?))).1 (cT (KOf n h.get?) (p (KOf n h.get?))).2 = true ∧ ∃ o, h.get? (cT (KOf n h.get?) (p (KOf n h.get?))).2 = some o ∧ He.emptyTab o = true := fun p hp => by
    obtain ⟨h5, h6⟩ := ba (List.all_eq_true.mp h4 p hp)
    refine ⟨h5, ?_⟩
    cases q : h.get? (cT (KOf n h.get?) (p (KOf n h.get?))).2 with
    | none => rw [q] at h6; cases h6
    | some o => rw [q] at h6; exact ⟨o, rfl, h6⟩
  exact ⟨fun f hf => List.all_eq_true.mp h1 f hf, fun d hd => ⟨List.all_eq_true.mp h3 d hd, map_mem e2 d hd⟩, fun p hp => (key p hp).1, fun p hp => by
    obtain ⟨_, o, q, z⟩ := key p hp
    exact He.frT_none q z, fun p hp => by
    obtain ⟨_, o, q, z⟩ := key p hp
    rw [q, He.emptyTab_eq z]⟩
def hookH (n : Nat) (fn : List PD) (fs : List (PySem.W.Frag → Bool)) (tf : List (PySem.W.Frag → Addr)) : PySem.W.Hook where
  α := AlH
  obs := fun s => obsH n fn fs tf s.heap.get?
  val := fun _ => valH fn
  says := fun _ h => ∃ K : PySem.W.Frag, K.In h ∧ SaysH fn fs tf h K
  of := fun _ _ e => ⟨_, He.frT_in, saysH_of e⟩
  keeps := fun _ _ _ ⟨K, hK, c⟩ k => ⟨K, PySem.W.Frag.In.keeps hK k, ⟨c.facts, c.defs, c.hd, c.out, fun p hp => k _ _ (c.empty p hp)⟩⟩
theorem obsH_eq {n : Nat} {fn : List PD} {fs : List (PySem.W.Frag → Bool)} {tf : List (PySem.W.Frag → Addr)} {g : Addr → Option Obj} {s : Shared} (h : ∀ a, g a = s.heap.get? a) : obsH n fn fs tf g = (hookH n fn fs tf).obs s := by
  have e : g = s.heap.get? := funext h
  rw [e] <;> rfl
section
variable {fn : List PD} {fs : List (PySem.W.Frag → Bool)} {tf : List (PySem.W.Frag → Addr)} {h : Heap} {K : PySem.W.Frag}
theorem SaysH.fact (c : SaysH fn fs tf h K) (i : Nat) {f : PySem.W.Frag → Bool} (e : fs[i]? = some f := by rfl) : f K = true := c.facts f (List.mem_of_getElem? e)
theorem SaysH.def_ (c : SaysH fn fs tf h K) (i : Nat) {d : PD} (e : fn[i]? = some d) (h0 : d.clo = [] := by rfl) : ∃ fd, FunD K d.name d.qual d.params d.body d.scope d.dfl [] (d.at_ K) fd :=
  have z := c.defs d (List.mem_of_getElem? e)
  PD.funD z.2 z.1 h0
end
/-! ### checks -/
def eqO (a b : Option (Option Value)) : Bool := decide (a = b)
/-- the static method's def -/
def stF (C : PySem.W.Frag → Addr) (m : Str) (K : PySem.W.Frag) : Addr := match PySem.W.findCls K (.ref (C K)) (.type "type") m with
  | some (.get _ (.ref p) _ _) => (match PySem.W.recIn K p "staticmethod" with
    | some (.ref f :: _) => f
    | _ => 0)
  | _ => 0
def stP (C : PySem.W.Frag → Addr) (m : Str) (K : PySem.W.Frag) : Addr := match PySem.W.findCls K (.ref (C K)) (.type "type") m with
  | some (.get _ (.ref p) _ _) => p
  | _ => 0
def ckCRead (C : PySem.W.Frag → Addr) (K : PySem.W.Frag) : Bool := PySem.W.readsIn K (C K) (.type "type") && eqO (PySem.W.specialIn K (.ref (C K)) "__getattribute__") (some (some (.builtin "type.__getattribute__")))
theorem ckCRead_ok {C : PySem.W.Frag → Addr} {K : PySem.W.Frag} (h : ckCRead C K = true) : ClX.CRead K (C K) (.type "type") := by
  obtain ⟨h1, h2⟩ := ba h
  exact ⟨h1, of_decide_eq_true h2⟩
def ckSt (C : PySem.W.Frag → Addr) (m : Str) (K : PySem.W.Frag) : Bool := ckCRead C K && (decide (PySem.W.typeIn K (.ref (C K)) = some (.type "type")) && ((match PySem.W.findCls K (.ref (C K)) (.type "type") m with
  | some (.get (.builtin g) (.ref p) .none (.ref D)) => decide (g = "staticmethod.__get__") && (decide (p = stP C m K) && decide (D = C K))
  | _ => false) && ((match PySem.W.recIn K (stP C m K) "staticmethod" with
  | some (.ref f :: _) => decide (f = stF C m K)
  | _ => false) && PySem.W.keepIn K (.ref (stF C m K)))))
theorem ckSt_ok {C : PySem.W.Frag → Addr} {m : Str} {K : PySem.W.Frag} (h : ckSt C m K = true) : StA K (C K) m (stF C m K) := by
  obtain ⟨h1, h⟩ := ba h
  obtain ⟨h2, h⟩ := ba h
  obtain ⟨h3, h⟩ := ba h
  obtain ⟨h4, h5⟩ := ba h
  refine ⟨?_, h5⟩
  split at h3
  · rename_i g p D e
    obtain ⟨a1, a2⟩ := ba h3
    obtain ⟨a2, a3⟩ := ba a2
    split at h4
    · rename_i f rest e2
      have a1 := of_decide_eq_true a1
      have a2 := of_decide_eq_true a2
      have a3 := of_decide_eq_true a3
      subst a1 a2 a3
      exact ⟨.type "type", stP C m K, rest, ckCRead_ok h1, of_decide_eq_true h2, e, by rw [e2, of_decide_eq_true h4]⟩
    · cases h4
  · cases h3
/-- C.f is a tuple of texts -/
def cvT (C : PySem.W.Frag → Addr) (f : Str) (K : PySem.W.Frag) : Addr := match PySem.W.findCls K (.ref (C K)) (.type "type") f with
  | some (.val (.ref t)) => t
  | _ => 0
def ckNames (C : PySem.W.Frag → Addr) (f : Str) (vs : List V) (K : PySem.W.Frag) : Bool := ckCRead C K && ((match PySem.W.findCls K (.ref (C K)) (.type "type") f with
  | some (.val (.ref t)) => decide (t = cvT C f K)
  | _ => false) && (match K.lookup (cvT C f K) with
  | some ⟨.type c, none, .seq its _, _⟩ => decide (c = "tuple") && (decide (its.size ≤ sizeLine) && He.relAll vs its.toList)
  | _ => false))
theorem ckNames_ok {C : PySem.W.Frag → Addr} {f : Str} {vs : List V} {K : PySem.W.Frag} (h : ckNames C f vs K = true) : ∃ mc t u, ClX.CRead K (C K) mc ∧ ClX.CVal K (C K) mc f (.ref t) u ∧ SqT K (fun _ => none) t vs ∧ ∃ o, K.lookup t = some o ∧ o.cls = .type "tuple" ∧ o.dict = none := by
  obtain ⟨h1, h⟩ := ba h
  obtain ⟨h2, h3⟩ := ba h
  refine ⟨.type "type", cvT C f K, .ref (cvT C f K), ckCRead_ok h1, ?_, ?_⟩
  · split at h2
    · rename_i t e
      have := of_decide_eq_true h2
      subst this
      exact ⟨e, rfl⟩
    · cases h2
  · cases q : K.lookup (cvT C f K) with
    | none => rw [q] at h3; cases h3
    | some o =>
      obtain ⟨oc, od, dt, osl⟩ := o
      rw [q] at h3
      cases oc with
      | type c =>
        cases od with
        | none =>
          cases dt with
          | seq its n =>
            obtain ⟨k1, k2⟩ := ba (show (decide (c = "tuple") && (decide (its.size ≤ sizeLine) && He.relAll vs its.toList)) = true from h3)
            obtain ⟨k3, k4⟩ := ba k2
            have k1 := of_decide_eq_true k1
            subst k1
            exact ⟨.inr ⟨_, its, n, q, rfl, rfl, of_decide_eq_true k3, He.relAll_ok k4⟩, _, rfl, rfl, rfl⟩
          | _ => cases h3
        | some a => cases dt <;> cases h3
      | _ => cases od <;> cases dt <;> cases h3
/-- own class, for isinstance -/
def ckOwn (C : PySem.W.Frag → Addr) (K : PySem.W.Frag) : Bool := eqO (PySem.W.findIn K (.ref (C K)) "__class__") (some (some (.builtin "object.__class__"))) && (eqO (PySem.W.specialIn K (.builtin "object.__class__") "__get__") (some (some (.builtin "getset_descriptor.__get__"))) &&
  (decide (PySem.W.takesIn K (.builtin "object.__class__") = some true) && (decide (PySem.W.mroIn K (C K) (.type "object") = some true) && ((["int", "bool", "str", "list", "tuple", "dict"] : List String).all (fun n => decide (PySem.W.kitOne K (.ref (C K)) (.type n) = some false)) &&
  (decide (PySem.W.kitOne K (.ref (C K)) (.ref (C K)) = some true) && ((["NoneType", "bool", "int", "str", "list", "tuple", "dict"] : List String).all fun n => decide (PySem.W.kitOne K (.type n) (.ref (C K)) = some false)))))))
theorem ckOwn_ok {C : PySem.W.Frag → Addr} {K : PySem.W.Frag} (hc : Cls K (C K)) (h : ckOwn C K = true) : OwnC K (C K) := by
  obtain ⟨h1, h⟩ := ba h
  obtain ⟨h2, h⟩ := ba h
  obtain ⟨h3, h⟩ := ba h
  obtain ⟨h4, h⟩ := ba h
  obtain ⟨h5, h⟩ := ba h
  obtain ⟨h6, h7⟩ := ba h
  refine ⟨hc, of_decide_eq_true h1, of_decide_eq_true h2, of_decide_eq_true h3, of_decide_eq_true h4, fun n hn => of_decide_eq_true (List.all_eq_true.mp h5 n hn), of_decide_eq_true h6, fun g hg => ?_⟩
  have k := fun n hn => of_decide_eq_true (List.all_eq_true.mp h7 n hn)
  cases g with
  | own D => exact absurd rfl (hg D)
  | _ => exact k _ (by decide)
/-- + and - of an own class -/
def ckBin (C : PySem.W.Frag → Addr) (l r : Str) (K : PySem.W.Frag) : Bool := PySem.W.selfFirst K (C K) && ((match PySem.W.findIn K (.ref (C K)) r with
  | some none => true
  | some (some (.ref _)) => true
  | _ => false) && (plainTys.all fun T => (PySem.W.findIn K (.type T) l).isSome && ((PySem.W.findIn K (.type T) r).isSome && decide (PySem.W.subIn K (.type T) (.ref (C K)) = some false))))
theorem ckBin_ok {C : PySem.W.Frag → Addr} {nm : String} {l r : Str} {K : PySem.W.Frag} (h : ckBin C l r K = true) (el : PySem.dunder nm = l) (er : PySem.dunderR nm = r) : OwnBin K (C K) nm := by
  subst el er
  obtain ⟨h1, h⟩ := ba h
  obtain ⟨h2, h3⟩ := ba h
  refine ⟨fun f e1 e2 => ⟨h1, e1, e2, ?_⟩, fun T hT => ?_⟩
  · split at h2
    · rename_i e; exact ⟨_, e, .inl rfl⟩
    · rename_i g e; exact ⟨_, e, .inr ⟨g, rfl⟩⟩
    · cases h2
  · obtain ⟨k1, k⟩ := ba (List.all_eq_true.mp h3 T hT)
    obtain ⟨k2, k3⟩ := ba k
    obtain ⟨a, ha⟩ := Option.isSome_iff_exists.mp k1
    obtain ⟨b, hb⟩ := Option.isSome_iff_exists.mp k2
    exact ⟨⟨a, ha⟩, ⟨b, hb⟩, of_decide_eq_true k3⟩
def ckOff (C : PySem.W.Frag → Addr) (K : PySem.W.Frag) : Bool := (plainTys.all fun T => decide (PySem.W.subIn K (.type T) (.ref (C K)) = some false)) && decide (PySem.W.subIn K (.ref (C K)) (.type "tuple") = some false)
theorem ckOff_ok {C : PySem.W.Frag → Addr} {K : PySem.W.Frag} (h : ckOff C K = true) : OffC K (C K) := by
  obtain ⟨h1, h2⟩ := ba h
  exact ⟨fun T hT => of_decide_eq_true (List.all_eq_true.mp h1 T hT), of_decide_eq_true h2⟩
/-- an object, an address by name -/
abbrev cl (x : Str) : PySem.W.Frag → Addr := fun K => He.ga K x
abbrev mth (x m : Str) : PySem.W.Frag → Addr := fun K => He.ma K (He.ga K x) m
def ckFa (f : He.Fa) (K : PySem.W.Frag) : Bool := f.ok K
def ckKit (x y : Str) (b : Bool) (K : PySem.W.Frag) : Bool := decide (PySem.W.kitOne K (.ref (He.ga K x)) (.ref (He.ga K y)) = some b)
/-! exceptions -/
def ckExc (x : Str) (fl : List Str) (K : PySem.W.Frag) : Bool := (match K.lookup (He.ga K x) with
  | some ⟨.type "type", _, .cls cd, sl⟩ => (match cd.mro, sl.toList with
    | .ref C' :: bm, [_, _, _, _, some (.builtin n), _] => decide (C' = He.ga K x) && (decide (n = "ValueError.__new__") && (!cd.hasDel && (cd.hasDict && (HandSPX.refsVE bm && PySem.PX.refsVE bm))))
    | _, _ => false)
  | _ => false) && (eqO (PySem.W.findIn K (.ref (He.ga K x)) "__setattr__") (some (some (.builtin "object.__setattr__"))) && (eqO (PySem.W.findIn K (.ref (He.ga K x)) "__init__") (some (some (.ref (He.ma K (He.ga K x) "__init__")))) &&
  (decide (PySem.W.typeIn K (.ref (He.ma K (He.ga K x) "__init__")) = some (.type "function")) && (PySem.W.keepIn K (.ref (He.ga K x)) && (decide (PySem.W.subIn K (.ref (He.ga K x)) (.type "BaseException") = some true) && (decide (PySem.W.subIn K (.ref (He.ga K x)) (.type "ValueError") = some true) &&
  (decide (PySem.W.typeIn K (.ref (He.ga K x)) = some (.type "type")) && (decide (PySem.W.mroIn K (He.ga K x) (.ref (He.ga K x)) = some true) && (eqO (PySem.W.ks_superIn K (He.ga K x) (He.ga K x) "__init__") (some (some (.builtin "ValueError.__init__"))) && (eqO (PySem.W.nsIn K cStatics "thirdparty.any") (some none) &&
  (PySem.W.hasDictIn K (He.ga K x) && (eqO (PySem.W.findIn K (.ref (He.ga K x)) "__getattribute__") (some (some (.builtin "BaseException.__getattribute__"))) && (eqO (PySem.W.findIn K (.ref (He.ga K x)) "__getattr__") (some none) && (eqO (PySem.W.findIn K (.ref (He.ga K x)) "__class__") (some (some (.builtin "object.__class__"))) &&
  (eqO (PySem.W.specialIn K (.builtin "object.__class__") "__get__") (some (some (.builtin "getset_descriptor.__get__"))) && (decide (PySem.W.takesIn K (.builtin "object.__class__") = some true) && (decide (PySem.W.mroIn K (He.ga K x) (.type "object") = some true) && (fl.all fun f => eqO (PySem.W.findIn K (.ref (He.ga K x)) f) (some none)))))))))))))))))))
def iniCell (K : PySem.W.Frag) (f : Addr) : Addr := match K.lookup f with
  | some ⟨_, _, .func fd, _⟩ => (match fd.closure with
    | (_, c) :: _ => c
    | _ => 0)
  | _ => 0
def ckIni (x : Str) (file : Str) (K : PySem.W.Frag) : Bool := (match K.lookup (iniCell K (He.ma K (He.ga K x) "__init__")) with
  | some ⟨_, _, .cell (some (.ref D)), _⟩ => decide (D = He.ga K x)
  | _ => false) && (match K.lookup (codeA K (He.ma K (He.ga K x) "__init__")) with
  | some ⟨_, _, .fields vs, _⟩ => (match (vs[2]? : Option Value) with
    | some (.str fl _) => file == fl
    | _ => false)
  | _ => false)
/-- what the checks say of an exception's class -/
theorem exc_txt {P : Program} {K : PySem.W.Frag} {mg : Str → Option Value} {x : Str} {fl : List Str} (h : ckExc x fl K = true) (hi : ckIni x P.main.file K = true) (gsu : mg "super" = none) (top : (P.main.scope.names.lookup ("super" : Str)).isSome = false) :
    TkX.XTxt P K mg (He.ga K x) (He.ma K (He.ga K x) "__init__") (codeA K (He.ma K (He.ga K x) "__init__")) (iniCell K (He.ma K (He.ga K x) "__init__")) := by
  obtain ⟨h1, h⟩ := ba h
  obtain ⟨h2, h⟩ := ba h
  obtain ⟨h3, h⟩ := ba h
  obtain ⟨h4, h⟩ := ba h
  obtain ⟨h5, h⟩ := ba h
  obtain ⟨h6, h⟩ := ba h
  obtain ⟨h7, h⟩ := ba h
  obtain ⟨h8, h⟩ := ba h
  obtain ⟨h9, h⟩ := ba h
  obtain ⟨h10, h⟩ := ba h
  obtain ⟨h11, h⟩ := ba h
  obtain ⟨i1, i2⟩ := ba hi
  refine ⟨?_, of_decide_eq_true h2, of_decide_eq_true h3, of_decide_eq_true h4, h5, of_decide_eq_true h6, of_decide_eq_true h7, of_decide_eq_true h8, of_decide_eq_true h9, of_decide_eq_true h10, of_decide_eq_true h11, gsu, ?_, ?_, top⟩
  · split at h1
    · rename_i o dd cd sl e
      split at h1
      · rename_i C' bm k0 k1 k2 k3 n k5 em es
        obtain ⟨a1, a⟩ := ba h1
        obtain ⟨a2, a⟩ := ba a
        obtain ⟨a3, a⟩ := ba a
        obtain ⟨a4, a⟩ := ba a
        obtain ⟨a5, a6⟩ := ba a
        have a1 := of_decide_eq_true a1
        have a2 := of_decide_eq_true a2
        have a3 : cd.hasDel = false := by cases z : cd.hasDel with | false => rfl | true => (rw [z] at a3; cases a3)
        subst a1 a2
        obtain ⟨nm, bs, mr, ns, qn, hd, sn, sub, ab, co, hdel⟩ := cd
        have em : mr = .ref (He.ga K x) :: bm := em
        have a3 : hdel = false := a3
        have a4 : hd = true := a4
        subst em a3 a4
        have es : sl = #[k0, k1, k2, k3, some (.builtin "ValueError.__new__"), k5] := by
          have := congrArg List.toArray es
          simpa using this
        subst es
        exact ⟨nm, qn, ns, bs, bm, sn, sub, ab, co, dd, k0, k1, k2, k3, k5, e, a5, a6⟩
      · cases h1
    · cases h1
  · split at i2
    · rename_i ccl cdd vs ccs e
      split at i2
      · rename_i fl tf e2
        exact ⟨ccl, cdd, vs, ccs, fl, tf, e, e2, i2⟩
      · cases i2
    · cases i2
  · split at i1
    · rename_i c1 c2 D c3 e
      have i1 := of_decide_eq_true i1
      subst i1
      exact ⟨c1, c2, c3, e⟩
    · cases i1
theorem exc_cls {P : Program} {w : World} {K : PySem.W.Frag} {mg : Str → Option Value} {x : Str} {fl : List Str} (h : ckExc x fl K = true) (hm : mg x = some (.ref (He.ga K x))) (T : TkX.XTxt P K mg (He.ga K x) (He.ma K (He.ga K x) "__init__") (codeA K (He.ma K (He.ga K x) "__init__")) (iniCell K (He.ma K (He.ga K x) "__init__")))
    (I : TkX.XInit P w K mg (He.ga K x) (He.ma K (He.ga K x) "__init__") fl) : TkX.XCls P w K mg x (He.ga K x) fl := by
  obtain ⟨h1, h⟩ := ba h
  obtain ⟨h2, h⟩ := ba h
  obtain ⟨h3, h⟩ := ba h
  obtain ⟨h4, h⟩ := ba h
  obtain ⟨h5, h⟩ := ba h
  obtain ⟨h6, h⟩ := ba h
  obtain ⟨h7, h⟩ := ba h
  obtain ⟨h8, h⟩ := ba h
  obtain ⟨h9, h⟩ := ba h
  obtain ⟨h10, h⟩ := ba h
  obtain ⟨h11, h⟩ := ba h
  obtain ⟨h12, h⟩ := ba h
  obtain ⟨h13, h⟩ := ba h
  obtain ⟨h14, h⟩ := ba h
  obtain ⟨h15, h⟩ := ba h
  obtain ⟨h16, h⟩ := ba h
  obtain ⟨h17, h⟩ := ba h
  obtain ⟨h18, h19⟩ := ba h
  obtain ⟨nm, q, N, bs, bm, sn, sub, ab, col, dd, k0, k1, k2, k3, k5, e, e1, _⟩ := T.cls
  exact ⟨hm, ⟨nm, q, N, bs, bm, sn, sub, ab, col, dd, k0, k1, k2, k3, k5, e, e1⟩, ⟨_, T.iC, T.tI, I⟩, h5, of_decide_eq_true h6, of_decide_eq_true h8, h12, of_decide_eq_true h13, of_decide_eq_true h14, of_decide_eq_true h15, of_decide_eq_true h16, of_decide_eq_true h17, of_decide_eq_true h18, fun f hf => of_decide_eq_true (List.all_eq_true.mp h19 f hf)⟩
end TkH
end
section
set_option linter.all false
set_option maxRecDepth 100000
set_option maxHeartbeats 4000000
namespace Tk
open PySem PySem.Spec PyProof.Rows L2
/-! ### the pen -/
structure Pn where
  p : Addr
  l : Addr
  xs : List Int
structure PenAt (K : PySem.W.Frag) (p : Pn) (n : Nat) (H : Hp) : Prop where
  at_ : ∃ (i g : Int), H p.p = some (.lst [.ref p.l, .int i, .int g]) ∧ p.l ≠ p.p ∧ SqL K (off [p.p] H) p.l (p.xs.map V.int) ∧ 0 ≤ i ∧ i + n ≤ 1048576 ∧ 0 ≤ g
theorem PenAt.less {K : PySem.W.Frag} {p : Pn} {n m : Nat} {H : Hp} (h : PenAt K p n H) (e : m ≤ n) : PenAt K p m H := by
  obtain ⟨i, g, h1, h2, h3, h4, h5, h6⟩ := h.at_
  exact ⟨i, g, h1, h2, h3, h4, by omega, h6⟩
theorem PenAt.ext {K : PySem.W.Frag} {p : Pn} {n : Nat} {H H' : Hp} (h : PenAt K p n H) (e : Ext H H') : PenAt K p n H' := by
  obtain ⟨i, g, h1, h2, h3, h4, h5, h6⟩ := h.at_
  exact ⟨i, g, e _ _ h1, h2, h3.ext (Up.of e).ext, h4, h5, h6⟩
/-- what lies neither at the pen nor at its cells may change -/
theorem PenAt.keep {K : PySem.W.Frag} {p : Pn} {n : Nat} {H : Hp} {D : Addr} {o : HO} (h : PenAt K p n H) (h1 : D ≠ p.p) (h2 : D ≠ p.l) : PenAt K p n (upd H D o) := by
  obtain ⟨i, g, k1, k2, k3, h4, h5, h6⟩ := h.at_
  refine ⟨i, g, by rw [upd_ne h1.symm]; exact k1, k2, ?_, h4, h5, h6⟩
  have e : off [p.p] (upd H D o) p.l = off [p.p] H p.l := by
    unfold off
    rw [upd_ne h2.symm]
  rcases k3 with (k3 | ⟨o', k3⟩) | k3
  · exact .inl (.inl (by rw [e]; exact k3))
  · exact .inl (.inr ⟨o', by rw [e]; exact k3⟩)
  · exact .inr k3
theorem PenAt.ne {K : PySem.W.Frag} {p : Pn} {n : Nat} {H : Hp} {D : Addr} (h : PenAt K p n H) (hD : H D = none) : D ≠ p.p := fun z => by
  obtain ⟨i, g, k1, _⟩ := h.at_
  rw [z, k1] at hD; cases hD
theorem sl {n : Nat} (h : n.ble sizeLine = true) : n ≤ sizeLine := Nat.le_of_ble_eq_true h
theorem cutV_map {α : Type} {f : α → V} {xs : List α} {lo hi : Option Int} : cutV (xs.map f) lo hi = ((xs.drop (HT.sIx xs.length 0 lo)).take (HT.sIx xs.length xs.length hi - HT.sIx xs.length 0 lo)).map f := by
  unfold cutV
  rw [List.length_map, List.map_take, List.map_drop]
theorem off_upd {M : List Addr} {H : Hp} {p : Addr} {o : HO} (m : p ∈ M) : off M (upd H p o) = off M H := by
  funext a
  unfold off
  by_cases z : a ∈ M
  · rw [if_pos z, if_pos z]
  · rw [if_neg z, if_neg z, upd_ne (fun q => z (by rw [q]; exact m))]
theorem PenAt.set {K : PySem.W.Frag} {p : Pn} {n : Nat} {i g : Int} {H : Hp} (h3 : SqL K (off [p.p] H) p.l (p.xs.map V.int)) (h2 : p.l ≠ p.p) (h4 : 0 ≤ i) (h5 : i + n ≤ 1048576) (h6 : 0 ≤ g) : PenAt K p n (upd H p.p (.lst [.ref p.l, .int i, .int g])) :=
  ⟨⟨i, g, upd_same, h2, by rw [off_upd (List.mem_singleton.mpr rfl)]; exact h3, h4, h5, h6⟩⟩
theorem dpE {K : PySem.W.Frag} {H : Hp} {a : Addr} (h : SqL K H a []) : Dp K H (.ref a) (.list []) := .lst h .nil
theorem dpInts {K : PySem.W.Frag} {H : Hp} : ∀ {xs : List Int}, DpAll K H (xs.map V.int) (xs.map PyData.int)
  | [] => .nil
  | x :: _ => .cons (.int x) dpInts
theorem ixN_in {n : Nat} {i : Int} (h0 : 0 ≤ i) (h1 : i < n) : ixN n i = some i.toNat := by
  unfold ixN
  rw [if_pos h0, if_pos h1]
theorem atI_in {α : Type} {xs : List α} {i : Int} (h0 : 0 ≤ i) (h1 : i < xs.length) : ∃ x, x ∈ xs ∧ atI xs i = some x := by
  have k : i.toNat < xs.length := by omega
  refine ⟨xs[i.toNat], List.getElem_mem k, ?_⟩
  unfold atI
  rw [ixN_in h0 h1]
  exact List.getElem?_eq_getElem k
theorem atI_int {xs : List Int} {i : Int} (h0 : 0 ≤ i) (h1 : i < xs.length) : ∃ j, j ∈ xs ∧ atI (xs.map V.int) i = some (.int j) := by
  obtain ⟨x, m, e⟩ := atI_in (xs := xs.map V.int) h0 (by rw [List.length_map]; exact h1)
  obtain ⟨j, mj, rfl⟩ := List.mem_map.mp m
  exact ⟨j, mj, e⟩
/-- draw: any number below many -/
def spDraw (K : PySem.W.Frag) : Sp := fun vs H Q _ => ∃ (p : Pn) (many : Int) (n : Nat), vs = [.ref p.p, .int many] ∧ 0 < many ∧ many < 1073741824 ∧ PenAt K p (n + 1) H ∧
  ∀ (d : Int) (H' : Hp), 0 ≤ d → d < many → Up [p.p] H H' → PenAt K p n H' → Q (.int d) H'
/-- pick: any of a list -/
def spPick (K : PySem.W.Frag) : Sp := fun vs H Q _ => ∃ (p : Pn) (q : Addr) (xs : List V) (n : Nat), vs = [.ref p.p, .ref q] ∧ xs ≠ [] ∧ xs.length ≤ 1000000 ∧ SqL K (off [p.p] H) q xs ∧ PenAt K p (n + 1) H ∧
  ∀ (x : V) (H' : Hp), x ∈ xs → Up [p.p] H H' → PenAt K p n H' → Q x H'
/-- is_integer: of anything -/
def spIsInt (K : PySem.W.Frag) : Sp := fun vs H Q _ => ∃ x g, vs = [x] ∧ Is K H x g ∧ Q (.bl (isInt x)) H
/-- pen -/
def spPen (K : PySem.W.Frag) : Sp := fun vs H Q _ => ∃ (a : Addr) (xs : List Int), vs = [.ref a] ∧ SqL K H a (xs.map V.int) ∧ ∀ (p : Pn) H', H p.p = none → Ext H H' → PenAt K p 1048576 H' → H p.l = none → (∃ xs, H' p.l = some (.lst xs)) → Q (.ref p.p) H'
/-- number: within reach of 10^41 -/
def spNumber (K : PySem.W.Frag) : Sp := fun vs H Q _ => ∃ (p : Pn) (n : Nat), vs = [.ref p.p] ∧ PenAt K p (n + 3) H ∧ ∀ (d : Int) (H' : Hp), -(2 * 10 ^ 40) ≤ d → d ≤ 2 * 10 ^ 40 → Up [p.p] H H' → PenAt K p n H' → Q (.int d) H'
end Tk
open PySem PySem.Spec PyProof.Rows L2 Tk
namespace K8
def top (i : Nat) : Stmt := PySem.Challenge.pw_takenup_k08_sums_and_their_order.main.body.getD i (.Pass ⟨0,0,0,0⟩)
local macro_rules | `(tactic| trivial) => `(tactic| first
  | with_reducible refine s_seq ?_
  | with_reducible refine s_asg ?_
  | with_reducible refine s_op ?_
  | with_reducible refine s_c ?_
  | with_reducible refine s_name ?_
  | with_reducible refine s_cb ?_
  | with_reducible refine s_cons ?_
  | with_reducible refine s_nil ?_
  | with_reducible refine s_call ?_
  | with_reducible refine s_ret ?_
  | with_reducible refine s_ifS ?_
  | with_reducible refine s_test ?_
  | with_reducible refine s_B ?_
  | with_reducible refine s_kB ?_
  | with_reducible refine s_kI ?_
  | with_reducible refine s_addI ?_
  | with_reducible refine s_subI ?_
  | with_reducible refine s_ltI ?_
  | with_reducible refine s_leI ?_
  | with_reducible refine s_gtI ?_
  | with_reducible refine s_geI ?_
  | with_reducible refine s_int1 ?_
  | with_reducible refine s_intB ?_
  | with_reducible refine s_abs ?_
  | with_reducible refine s_eq rfl ?_
  | with_reducible refine s_ne rfl ?_
  | with_reducible refine s_isN ?_
  | with_reducible refine s_notN ?_
  | with_reducible refine s_un ?_
  | with_reducible refine s_unI ?_
  | with_reducible refine s_and ?_
  | with_reducible refine s_or ?_
  | with_reducible refine s_not ?_
  | with_reducible refine s_andV ?_
  | with_reducible refine s_orV ?_
  | with_reducible refine s_notV ?_
  | with_reducible refine s_if ?_
  | with_reducible refine s_tup ?_
  | with_reducible refine s_lst ?_
  | with_reducible refine s_fldT ?_
  | with_reducible refine s_drop ?_
  | with_reducible refine s_sl ?_
  | with_reducible refine s_none ?_
  | with_reducible refine s_some ?_
  | with_reducible refine s_sub ?_
  | with_reducible refine s_next ?_
  | ((with_reducible refine s_var (v := ?_) ?_ ?_); rotate_left; focus rfl))
/-! is_integer, slots: 0 value -/
abbrev s_is_integer : Stmt := top 1
abbrev n_is_integer : List Str := ["value"]
theorem sc_is_integer : FnScope n_is_integer ["value"] (defScope s_is_integer) := ⟨rfl, rfl, rfl, by decide +kernel, rfl, by decide +kernel, by decide +kernel⟩
def t_is_integer (K : PySem.W.Frag) : TS :=
  (tRet (tAndV (tCB (rIsi K) (tCons (tVar 0) (tCons (tC (.ty "int")) tNil))) (tNotV (tCB (rIsi K) (tCons (tVar 0) (tCons (tC (.ty "bool")) tNil))))))
theorem tm_is_integer {P : Program} {w : World} {K : PySem.W.Frag} {mg : Str → Option Value} {base : Heap} {f : Addr} {cdv : Value} {A : Around} {outer : List Env} {s : Shared} {H : Hp} {E : XK} (b_isinstance : mg "isinstance" = none) (b_int : mg "int" = none) (b_bool : mg "bool" = none)
    (hr : Room 1 (A.deeper (envOfC "is_integer" (defScope s_is_integer) s.heap.objs.size f cdv))) : PSs (cxOf (L2.CX P w) P w K mg base n_is_integer "is_integer" (defScope s_is_integer) f cdv A outer s H E).nox (defBody s_is_integer) (t_is_integer K) :=
  (pss_one (ps_ret (pe_and (pe_callB call_isi (by rfl) b_isinstance (by decide +kernel) (pa_cons (pv 0) (pa_cons (pe_bltn (by rfl) b_int (by decide +kernel) rfl) pa_nil))) (pe_one (pe_not (pe_callB call_isi (by rfl) b_isinstance (by decide +kernel) (pa_cons (pv 0) (pa_cons (pe_bltn (by rfl) b_bool (by decide +kernel) rfl) pa_nil))))))))

/-! _law_pen, slots: 0 _law_script -/
abbrev s__law_pen : Stmt := top 13
abbrev n__law_pen : List Str := ["_law_script"]
theorem sc__law_pen : FnScope n__law_pen ["_law_script"] (defScope s__law_pen) := ⟨rfl, rfl, rfl, by decide +kernel, rfl, by decide +kernel, by decide +kernel⟩
def t__law_pen (K : PySem.W.Frag) : TS :=
  (tRet (tLst (tCons (tCB (rListOf K) (tCons (tSl (rSlL K) (tVar 0) oNone (oSome (tC (.int 63)))) tNil)) (tCons (tC (.int 0)) (tCons (tC (.int 0)) tNil)))))
theorem tm__law_pen {P : Program} {w : World} {K : PySem.W.Frag} {mg : Str → Option Value} {base : Heap} {f : Addr} {cdv : Value} {A : Around} {outer : List Env} {s : Shared} {H : Hp} {E : XK} (b_list : mg "list" = none)
    (hr : Room 1 (A.deeper (envOfC "_law_pen" (defScope s__law_pen) s.heap.objs.size f cdv))) : PSs (cxOf (L2.CX P w) P w K mg base n__law_pen "_law_pen" (defScope s__law_pen) f cdv A outer s H E).nox (defBody s__law_pen) (t__law_pen K) :=
  (pss_one (ps_ret (pe_lst (pa_cons (pe_callTy call_listOf (by rfl) b_list (by decide +kernel) (pa_cons (pe_slice sl_list (pv 0) po_none (po_some pe_int)) pa_nil)) (pa_cons pe_int (pa_cons pe_int pa_nil))))))

/-! _law_draw, slots: 0 _law_pen_here, 1 _law_many, 2 _law_digit, 3 _law_at, 4 _law_cell, 5 _law_great, 6 _law_mixed -/
abbrev s__law_draw : Stmt := top 14
abbrev n__law_draw : List Str := ["_law_pen_here", "_law_many", "_law_digit", "_law_at", "_law_cell", "_law_great", "_law_mixed"]
theorem sc__law_draw : FnScope n__law_draw ["_law_pen_here", "_law_many"] (defScope s__law_draw) := ⟨rfl, rfl, rfl, by decide +kernel, rfl, by decide +kernel, by decide +kernel⟩
def t__law_draw (K : PySem.W.Frag) : TS :=
  (tSeq (tIfS (tTest (tOp rGtI (tOp (rIxL K) (tVar 0) (tC (.int 2))) (tC (.int 0))))
    (tSeq (tAsg (tOp rModI (tCB rInt1 (tCons (tOp (rIxL K) (tVar 0) (tC (.int 2))) tNil)) (tVar 1)) (gName 2))
    (tSeq (tAsg (tOp rDivI (tCB rInt1 (tCons (tOp (rIxL K) (tVar 0) (tC (.int 2))) tNil)) (tVar 1)) (gSub (tVar 0) (tC (.int 2)) rSetL))
    (tRet (tVar 2))))
    tNext)
    (tSeq (tAsg (tOp (rIxL K) (tVar 0) (tC (.int 1))) (gName 3))
    (tSeq (tAsg (tOp rAddI (tVar 3) (tC (.int 1))) (gSub (tVar 0) (tC (.int 1)) rSetL))
    (tSeq (tAsg (tOp rAddI (tOp rMulI (tC (.int 40961)) (tVar 3)) (tC (.int 733))) (gName 4))
    (tSeqJ (tIfS (tTest (tOp (rNeD K) (tOp (rIxL K) (tVar 0) (tC (.int 0))) (tLst tNil)))
    (tAsg (tOp (rIxL K) (tOp (rIxL K) (tVar 0) (tC (.int 0))) (tOp rModI (tCB rInt1 (tCons (tVar 3) tNil)) (tCB (rLenQ K) (tCons (tOp (rIxL K) (tVar 0) (tC (.int 0))) tNil)))) (gName 4))
    tNext)
    (tSeqJ (tIfS (tAnd (tTest (tOp rLtI (tVar 3) (tCB (rLenQ K) (tCons (tOp (rIxL K) (tVar 0) (tC (.int 0))) tNil)))) (tTest (tOp rGeI (tCB rAbs (tCons (tVar 4) tNil)) (tOp rPowI (tC (.int 10)) (tC (.int 18))))))
    (tSeq (tAsg (tOp rAddI (tOp rMulI (tC (.int 2)) (tOp rSubI (tCB rAbs (tCons (tVar 4) tNil)) (tOp rPowI (tC (.int 10)) (tC (.int 18))))) (tCB rInt1 (tCons (tOp rLtI (tVar 4) (tC (.int 0))) tNil))) (gName 5))
    (tSeq (tAsg (tOp rDivI (tCB rInt1 (tCons (tVar 5) tNil)) (tVar 1)) (gSub (tVar 0) (tC (.int 2)) rSetL))
    (tRet (tOp rModI (tCB rInt1 (tCons (tVar 5) tNil)) (tVar 1)))))
    tNext)
    (tSeq (tAsg (tOp rModI (tCB rInt1 (tCons (tOp rPowI (tOp rAddI (tOp rAddI (tOp rModI (tCB rInt1 (tCons (tVar 4) tNil)) (tC (.int 2147483563))) (tOp rMulI (tC (.int 50833)) (tVar 3))) (tC (.int 907))) (tC (.int 5))) tNil)) (tC (.int 2147483629))) (gName 6))
    (tSeq (tAsg (tOp rModI (tCB rInt1 (tCons (tOp rPowI (tOp rAddI (tOp rAddI (tOp rMulI (tVar 6) (tOp rAddI (tOp rMulI (tC (.int 2)) (tVar 3)) (tC (.int 611)))) (tOp rMulI (tOp rMulI (tC (.int 47207)) (tVar 3)) (tVar 3))) (tC (.int 239))) (tC (.int 3))) tNil)) (tC (.int 2147483587))) (gName 6))
    (tRet (tOp rModI (tCB rInt1 (tCons (tOp rDivI (tVar 6) (tC (.int 32))) tNil)) (tVar 1)))))))))))
theorem tm__law_draw {P : Program} {w : World} {K : PySem.W.Frag} {mg : Str → Option Value} {base : Heap} {f : Addr} {cdv : Value} {A : Around} {outer : List Env} {s : Shared} {H : Hp} {E : XK} (b_int : mg "int" = none) (b_len : mg "len" = none) (b_abs : mg "abs" = none)
    (hr : Room 1 (A.deeper (envOfC "_law_draw" (defScope s__law_draw) s.heap.objs.size f cdv))) : PSs (cxOf (L2.CX P w) P w K mg base n__law_draw "_law_draw" (defScope s__law_draw) f cdv A outer s H E).nox (defBody s__law_draw) (t__law_draw K) := by
  have hu64 := hr_u64 hr
  exact (pss_cons (ps_if (pt_cmpR oGtI (pe_ix ix_list (pv 0) pe_int (fun _ _ => rfl)) pe_int (nomark _))
    (pss_cons (ps_set (i := 2) sc__law_draw.nd rfl (Or.inl rfl) (pe_op oModI (pe_callTy call_int1' (by rfl) b_int (by decide +kernel) (pa_cons (pe_ix ix_list (pv 0) pe_int (fun _ _ => rfl)) pa_nil)) (pv 1)))
    (pss_cons (ps_asg (pe_op oDivI (pe_callTy call_int1' (by rfl) b_int (by decide +kernel) (pa_cons (pe_ix ix_list (pv 0) pe_int (fun _ _ => rfl)) pa_nil)) (pv 1)) (pg_sub (pv 0) pe_int set_list))
    (pss_one (ps_ret (pv 2)))))
    pss_nil)
    (pss_cons (ps_set (i := 3) sc__law_draw.nd rfl (Or.inl rfl) (pe_ix ix_list (pv 0) pe_int (fun _ _ => rfl)))
    (pss_cons (ps_asg (pe_op oAddI (pv 3) pe_int) (pg_sub (pv 0) pe_int set_list))
    (pss_cons (ps_set (i := 4) sc__law_draw.nd rfl (Or.inl rfl) (pe_op oAddI (pe_op oMulI pe_int (pv 3)) pe_int))
    (pss_consJ (ps_if (pt_cmpR (op_neD hu64) (pe_ix ix_list (pv 0) pe_int (fun _ _ => rfl)) (pe_lst pa_nil) (nomark _))
    (pss_one (ps_set (i := 4) sc__law_draw.nd rfl (Or.inl rfl) (pe_ix ix_list (pe_ix ix_list (pv 0) pe_int (fun _ _ => rfl)) (pe_op oModI (pe_callTy call_int1' (by rfl) b_int (by decide +kernel) (pa_cons (pv 3) pa_nil)) (pe_callB call_lenQ (by rfl) b_len (by decide +kernel) (pa_cons (pe_ix ix_list (pv 0) pe_int (fun _ _ => rfl)) pa_nil))) (fun _ _ => rfl))))
    pss_nil)
    (pss_consJ (ps_if (PW.pt (pw_and (pt_cmpR oLtI (pv 3) (pe_callB call_lenQ (by rfl) b_len (by decide +kernel) (pa_cons (pe_ix ix_list (pv 0) pe_int (fun _ _ => rfl)) pa_nil)) (nomark _)) (pw_and1 (pt_cmpR oGeI (pe_callB call_absI (by rfl) b_abs (by decide +kernel) (pa_cons (pv 4) pa_nil)) (pe_op oPowI pe_int pe_int) (nomark _)))))
    (pss_cons (ps_set (i := 5) sc__law_draw.nd rfl (Or.inl rfl) (pe_op oAddI (pe_op oMulI pe_int (pe_op oSubI (pe_callB call_absI (by rfl) b_abs (by decide +kernel) (pa_cons (pv 4) pa_nil)) (pe_op oPowI pe_int pe_int))) (pe_callTy call_int1' (by rfl) b_int (by decide +kernel) (pa_cons (pe_cmpR oLtI (pv 4) pe_int (nomark _)) pa_nil))))
    (pss_cons (ps_asg (pe_op oDivI (pe_callTy call_int1' (by rfl) b_int (by decide +kernel) (pa_cons (pv 5) pa_nil)) (pv 1)) (pg_sub (pv 0) pe_int set_list))
    (pss_one (ps_ret (pe_op oModI (pe_callTy call_int1' (by rfl) b_int (by decide +kernel) (pa_cons (pv 5) pa_nil)) (pv 1))))))
    pss_nil)
    (pss_cons (ps_set (i := 6) sc__law_draw.nd rfl (Or.inl rfl) (pe_op oModI (pe_callTy call_int1' (by rfl) b_int (by decide +kernel) (pa_cons (pe_op oPowI (pe_op oAddI (pe_op oAddI (pe_op oModI (pe_callTy call_int1' (by rfl) b_int (by decide +kernel) (pa_cons (pv 4) pa_nil)) pe_int) (pe_op oMulI pe_int (pv 3))) pe_int) pe_int) pa_nil)) pe_int))
    (pss_cons (ps_set (i := 6) sc__law_draw.nd rfl (Or.inl rfl) (pe_op oModI (pe_callTy call_int1' (by rfl) b_int (by decide +kernel) (pa_cons (pe_op oPowI (pe_op oAddI (pe_op oAddI (pe_op oMulI (pv 6) (pe_op oAddI (pe_op oMulI pe_int (pv 3)) pe_int)) (pe_op oMulI (pe_op oMulI pe_int (pv 3)) (pv 3))) pe_int) pe_int) pa_nil)) pe_int))
    (pss_one (ps_ret (pe_op oModI (pe_callTy call_int1' (by rfl) b_int (by decide +kernel) (pa_cons (pe_op oDivI (pv 6) pe_int) pa_nil)) (pv 1))))))))))))

/-! _law_pick, slots: 0 _law_pen_here, 1 _law_some -/
abbrev s__law_pick : Stmt := top 15
abbrev n__law_pick : List Str := ["_law_pen_here", "_law_some"]
theorem sc__law_pick : FnScope n__law_pick ["_law_pen_here", "_law_some"] (defScope s__law_pick) := ⟨rfl, rfl, rfl, by decide +kernel, rfl, by decide +kernel, by decide +kernel⟩
def t__law_pick (K : PySem.W.Frag) : TS :=
  (tRet (tOp (rIxL K) (tVar 1) (tCall (spDraw K) [] E0 (tCons (tVar 0) (tCons (tCB (rLenQ K) (tCons (tVar 1) tNil)) tNil)))))
theorem tm__law_pick {P : Program} {w : World} {K : PySem.W.Frag} {mg : Str → Option Value} {base : Heap} {f : Addr} {cdv : Value} {A : Around} {outer : List Env} {s : Shared} {H : Hp} {E : XK} (b_len : mg "len" = none) (c__law_draw : Cl P w K mg base 2 "_law_draw" (spDraw K) [])
    (hr : Room 2 (A.deeper (envOfC "_law_pick" (defScope s__law_pick) s.heap.objs.size f cdv))) : PSs (cxOf (L2.CX P w) P w K mg base n__law_pick "_law_pick" (defScope s__law_pick) f cdv A outer s H E).nox (defBody s__law_pick) (t__law_pick K) :=
  (pss_one (ps_ret (pe_ix ix_list (pv 1) (pe_cl c__law_draw hr (by decide) (by rfl) passL (pa_cons (pv 0) (pa_cons (pe_callB call_lenQ (by rfl) b_len (by decide +kernel) (pa_cons (pv 1) pa_nil)) pa_nil))) (fun _ _ => rfl))))

/-! _law_number, slots: 0 _law_pen_here, 1 _law_way, 2 _law_far -/
abbrev s__law_number : Stmt := top 16
abbrev n__law_number : List Str := ["_law_pen_here", "_law_way", "_law_far"]
theorem sc__law_number : FnScope n__law_number ["_law_pen_here"] (defScope s__law_number) := ⟨rfl, rfl, rfl, by decide +kernel, rfl, by decide +kernel, by decide +kernel⟩
def t__law_number (K : PySem.W.Frag) : TS :=
  (tSeq (tAsg (tCall (spDraw K) [] E0 (tCons (tVar 0) (tCons (tC (.int 8)) tNil))) (gName 1))
    (tSeq (tIfS (tTest (tOp rLtI (tVar 1) (tC (.int 4))))
    (tRet (tOp rSubI (tCall (spDraw K) [] E0 (tCons (tVar 0) (tCons (tC (.int 41)) tNil))) (tC (.int 20))))
    tNext)
    (tSeq (tIfS (tTest (tOp rEq (tVar 1) (tC (.int 4))))
    (tRet (tC (.int 0)))
    tNext)
    (tSeq (tIfS (tTest (tOp rEq (tVar 1) (tC (.int 5))))
    (tRet (tOp rSubI (tCall (spDraw K) [] E0 (tCons (tVar 0) (tCons (tC (.int 2000001)) tNil))) (tC (.int 1000000))))
    tNext)
    (tSeq (tAsg (tOp rAddI (tIfJ (tTest (tOp rEq (tVar 1) (tC (.int 6)))) (tOp rPowI (tC (.int 10)) (tC (.int 12))) (tOp rPowI (tC (.int 10)) (tC (.int 40)))) (tCall (spDraw K) [] E0 (tCons (tVar 0) (tCons (tC (.int 1000)) tNil)))) (gName 2))
    (tRet (tIfJ (tTest (tOp rEq (tCall (spDraw K) [] E0 (tCons (tVar 0) (tCons (tC (.int 2)) tNil))) (tC (.int 0)))) (tVar 2) (tUn (rU fun i => .int (-i)) (tVar 2)))))))))
theorem tm__law_number {P : Program} {w : World} {K : PySem.W.Frag} {mg : Str → Option Value} {base : Heap} {f : Addr} {cdv : Value} {A : Around} {outer : List Env} {s : Shared} {H : Hp} {E : XK} (c__law_draw : Cl P w K mg base 2 "_law_draw" (spDraw K) [])
    (hr : Room 2 (A.deeper (envOfC "_law_number" (defScope s__law_number) s.heap.objs.size f cdv))) : PSs (cxOf (L2.CX P w) P w K mg base n__law_number "_law_number" (defScope s__law_number) f cdv A outer s H E).nox (defBody s__law_number) (t__law_number K) :=
  (pss_cons (ps_set (i := 1) sc__law_number.nd rfl (Or.inl rfl) (pe_cl c__law_draw hr (by decide) (by rfl) passL (pa_cons (pv 0) (pa_cons pe_int pa_nil))))
    (pss_cons (ps_if (pt_cmpR oLtI (pv 1) pe_int (nomark _))
    (pss_one (ps_ret (pe_op oSubI (pe_cl c__law_draw hr (by decide) (by rfl) passL (pa_cons (pv 0) (pa_cons pe_int pa_nil))) pe_int)))
    pss_nil)
    (pss_cons (ps_if (pt_cmpR op_eq (pv 1) pe_int (nomark _))
    (pss_one (ps_ret pe_int))
    pss_nil)
    (pss_cons (ps_if (pt_cmpR op_eq (pv 1) pe_int (nomark _))
    (pss_one (ps_ret (pe_op oSubI (pe_cl c__law_draw hr (by decide) (by rfl) passL (pa_cons (pv 0) (pa_cons pe_int pa_nil))) pe_int)))
    pss_nil)
    (pss_cons (ps_set (i := 2) sc__law_number.nd rfl (Or.inl rfl) (pe_op oAddI (pe_ifJ (pt_cmpR op_eq (pv 1) pe_int (nomark _)) (pe_op oPowI pe_int pe_int) (pe_op oPowI pe_int pe_int)) (pe_cl c__law_draw hr (by decide) (by rfl) passL (pa_cons (pv 0) (pa_cons pe_int pa_nil)))))
    (pss_one (ps_ret (pe_ifJ (pt_cmpR op_eq (pe_cl c__law_draw hr (by decide) (by rfl) passL (pa_cons (pv 0) (pa_cons pe_int pa_nil))) pe_int (nomark _)) (pv 2) (pe_un un_neg (pv 2))))))))))

section
variable {P : Program} {w : World} {K : PySem.W.Frag} {mg : Str → Option Value} {base : Heap} {f : Addr} {fd : FuncData}
theorem rd_is_integer {vs : List V} {H : Hp} {Q : VK} {E : XK} (h : spIsInt K vs H Q E) : t_is_integer K { nx := fun _ H' => Q .non H', rt := Q } (start n_is_integer vs) H := by
  obtain ⟨x, g, rfl, hi, q⟩ := h
  unfold t_is_integer
  repeat trivial
  refine s_isiB hi (by decide) ?_
  repeat trivial
  refine ite_b (fun e => ?_) (fun e => ?_)
  · repeat trivial
    refine s_isiB hi (by decide) ?_
    repeat trivial
    have z := hi.int_eq
    rw [e, Bool.true_and] at z
    rw [z]; exact q
  · have z := hi.int_eq
    rw [e, Bool.false_and] at z
    rw [← z] at q; exact q
theorem rd_pen {vs : List V} {H : Hp} {Q : VK} {E : XK} (h : spPen K vs H Q E) : t__law_pen K { nx := fun _ H' => Q .non H', rt := Q } (start n__law_pen vs) H := by
  obtain ⟨a, xs, rfl, ha, q⟩ := h
  unfold t__law_pen
  repeat trivial
  refine s_slL ha fun p1 h1 => ?_
  repeat trivial
  refine s_listOf (SqL.of upd_same) fun p2 h2 => ?_
  repeat trivial
  refine ⟨sl rfl, fun p3 h3 => ?_⟩
  have n12 : p2 ≠ p1 := fun z => by rw [z, upd_same] at h2; cases h2
  have n23 : p3 ≠ p2 := fun z => by rw [z, upd_same] at h3; cases h3
  have x2 := (Up.of (M := []) (ext_new (o := .lst (cutV (xs.map V.int) none (some 63))) h1)).free h2
  refine q ⟨p3, p2, _⟩ _ ?_ (fun b o e => ext_new h3 _ _ (ext_new h2 _ _ (ext_new h1 _ _ e))) ⟨⟨0, 0, upd_same, n23.symm, SqL.of (off_at (by simpa using n23.symm) (by rw [upd_ne n23.symm, upd_same, cutV_map])), by decide, by decide, by decide⟩⟩ x2 ⟨_, by rw [upd_ne n23.symm, upd_same]⟩
  cases e : H p3 with
  | none => rfl
  | some o => rw [ext_new h2 _ _ (ext_new h1 _ _ e)] at h3; cases h3
theorem rd_draw {vs : List V} {H : Hp} {Q : VK} {E : XK} (h : spDraw K vs H Q E) : t__law_draw K { nx := fun _ H' => Q .non H', rt := Q } (start n__law_draw vs) H := by
  obtain ⟨p, many, n, rfl, m0, m1, hp, q⟩ := h
  obtain ⟨i, g, h1, h2, h3, h4, h5, h6⟩ := hp.at_
  obtain ⟨p, l, xs⟩ := p
  dsimp only at h1 h2 h3 q ⊢
  have cd : ∀ z, CDiv z many := fun z => ⟨m0, m1⟩
  have mp : p ∈ [p] := List.mem_singleton.mpr rfl
  unfold t__law_draw
  repeat trivial
  refine s_ixL (SqL.of h1) rfl ?_
  repeat trivial
  refine ite_b (fun e => ?_) (fun e => ?_)
  · repeat trivial
    refine s_ixL (SqL.of h1) rfl ?_
    repeat trivial
    refine s_modI m0 ?_
    repeat trivial
    refine s_ixL (SqL.of h1) rfl ?_
    repeat trivial
    refine s_divI (cd _) ?_
    repeat trivial
    refine s_setL h1 rfl ?_
    repeat trivial
    exact q _ _ (Int.emod_nonneg _ (by omega)) (Int.emod_lt_of_pos _ m0) (up_at mp) (PenAt.set (p := ⟨p, l, xs⟩) h3 h2 h4 (by omega) (Int.ediv_nonneg h6 (by omega)))
  · repeat trivial
    refine s_ixL (SqL.of h1) rfl ?_
    repeat trivial
    refine s_setL (k := 1) h1 rfl ?_
    have g1 : upd H p (.lst ([V.ref l, .int i, .int g].set 1 (.int (i + 1)))) p = some (.lst [.ref l, .int (i + 1), .int g]) := upd_same
    have g3 : SqL K (upd H p (.lst ([V.ref l, .int i, .int g].set 1 (.int (i + 1))))) l (xs.map V.int) := by
      refine SqL.ext (H := off [p] H) h3 ?_
      rw [← off_upd mp]
      exact off_le
    revert g1 g3
    generalize hH1 : upd H p (.lst ([V.ref l, .int i, .int g].set 1 (.int (i + 1)))) = H1
    intro g1 g3
    have o1 : off [p] H1 = off [p] H := by rw [← hH1]; exact off_upd mp
    have u1 : Up [p] H H1 := by rw [← hH1]; exact up_at mp
    repeat trivial
    refine s_mulI (.inl ⟨by decide, by decide⟩) ?_
    repeat trivial
    have tail : ∀ (c : Int) (H2 : Hp), Ext H1 H2 → Ext H1 H2 := fun _ _ e => e
    with_reducible refine s_seqW (α := Int) (fun c => [some (.ref p), some (.int many), none, some (.int i), some (.int c), none, none]) (fun _ H2 => Ext H1 H2) (fun c H2 e2 => ?_) (fun tail => ?_)
    · have k1 := e2 _ _ g1
      have k3 := g3.ext e2
      have u2 : Up [p] H H2 := u1.trans (.of e2)
      have q3 : SqL K (off [p] H2) l (xs.map V.int) := h3.ext u2.ext
      with_reducible refine s_seqT (α := Unit) (fun _ => [some (.ref p), some (.int many), none, some (.int i), some (.int c), none, none]) (fun _ => ?_) (fun tail => ?_)
      · repeat trivial
        refine s_modI (by decide) ?_
        repeat trivial
        refine s_mulI (.inl ⟨by decide, by decide⟩) ?_
        repeat trivial
        have b0 : 0 ≤ c % 2147483563 := Int.emod_nonneg _ (by decide)
        have b1 : c % 2147483563 < 2147483563 := Int.emod_lt_of_pos _ (by decide)
        refine s_powI ⟨by decide, by decide, by omega⟩ ?_
        repeat trivial
        refine s_modI (by decide) ?_
        generalize hm : (c % 2147483563 + 50833 * i + 907) ^ Int.toNat 5 % 2147483629 = m
        have b2 : 0 ≤ m := by rw [← hm]; exact Int.emod_nonneg _ (by decide)
        have b3 : m < 2147483629 := by rw [← hm]; exact Int.emod_lt_of_pos _ (by decide)
        repeat trivial
        refine s_mulI (.inl ⟨by decide, by decide⟩) ?_
        repeat trivial
        refine s_mulI (.inl ⟨by omega, by omega⟩) ?_
        repeat trivial
        refine s_mulI (.inl ⟨by decide, by decide⟩) ?_
        repeat trivial
        refine s_mulI (.inl ⟨by omega, by omega⟩) ?_
        repeat trivial
        have b4 : m * (2 * i + 611) ≤ 2147483629 * 2097763 := Int.mul_le_mul (by omega) (by omega) (by omega) (by decide)
        have b5 : 0 ≤ m * (2 * i + 611) := Int.mul_nonneg b2 (by omega)
        have b6 : 47207 * i * i ≤ 49500127232 * 1048576 := Int.mul_le_mul (by omega) (by omega) h4 (by decide)
        have b7 : 0 ≤ 47207 * i * i := Int.mul_nonneg (by omega) h4
        refine s_powI ⟨by decide, by decide, by omega⟩ ?_
        repeat trivial
        refine s_modI (by decide) ?_
        repeat trivial
        refine s_divI ⟨by decide, by decide⟩ ?_
        repeat trivial
        refine s_modI m0 ?_
        exact q _ _ (Int.emod_nonneg _ (by omega)) (Int.emod_lt_of_pos _ m0) u2 ⟨⟨i + 1, g, k1, h2, q3, by omega, by omega, h6⟩⟩
      · repeat trivial
        refine s_ixL (SqL.of k1) rfl ?_
        repeat trivial
        refine s_lenL k3 ?_
        repeat trivial
        refine ite_b (fun e => ?_) (fun e => ?_)
        · repeat trivial
          refine s_powI ⟨by decide, by decide, by decide⟩ ?_
          repeat trivial
          refine ite_b (fun e => ?_) (fun e => ?_)
          · repeat trivial
            refine s_powI ⟨by decide, by decide, by decide⟩ ?_
            repeat trivial
            refine s_mulI (.inl ⟨by decide, by decide⟩) ?_
            repeat trivial
            refine s_divI (cd _) ?_
            repeat trivial
            refine s_setL (k := 2) k1 rfl ?_
            repeat trivial
            refine s_modI m0 ?_
            have b0 : (10 : Int) ^ Int.toNat 18 ≤ if c < 0 then -c else c := of_decide_eq_true e
            generalize hg : (2 * ((if c < 0 then -c else c) - (10 : Int) ^ Int.toNat 18) + if decide (c < 0) = true then 1 else 0) = gr
            have b1 : 0 ≤ gr := by rw [← hg]; split <;> omega
            exact q _ _ (Int.emod_nonneg _ (by omega)) (Int.emod_lt_of_pos _ m0) (u2.at mp) ⟨⟨i + 1, gr / many, upd_same, h2, by rw [off_upd mp]; exact q3, by omega, by omega, Int.ediv_nonneg b1 (by omega)⟩⟩
          · exact tail ()
        · exact ite_f (tail ())
    · repeat trivial
      refine s_ixL (SqL.of g1) rfl ?_
      repeat trivial
      refine ⟨sl rfl, fun p1 n1 => ?_⟩
      have x1 := ext_new (o := .lst []) n1
      refine s_neD (.lst (g3.ext x1) dpInts) (dpE (SqL.of upd_same)) ?_ rfl ?_
      · exact PySem.W.ke_shaped_ints xs
      repeat trivial
      refine ite_b (fun e => ?_) (fun e => ?_)
      · have x0 : 0 < xs.length := by
          cases xs with
          | nil => exact absurd e (by decide)
          | cons => exact Nat.succ_pos _
        have k1 := x1 _ _ g1
        have k3 := g3.ext x1
        repeat trivial
        refine s_ixL (SqL.of k1) rfl ?_
        repeat trivial
        refine s_ixL (SqL.of k1) rfl ?_
        repeat trivial
        refine s_lenL k3 ?_
        repeat trivial
        have z0 : (0 : Int) < ((xs.map V.int).length : Nat) := by rw [List.length_map]; omega
        refine s_modI z0 ?_
        obtain ⟨j, hj, hx⟩ := atI_int (xs := xs) (i := i % ((xs.map V.int).length : Nat)) (Int.emod_nonneg _ (by omega)) (by have := Int.emod_lt_of_pos i z0; rw [List.length_map] at this ⊢; exact this)
        refine s_ixL k3 hx ?_
        repeat trivial
        exact tail _ _ x1
      · repeat trivial
        exact tail _ _ x1
theorem rd_pick {vs : List V} {H : Hp} {Q : VK} {E : XK} (h : spPick K vs H Q E) : t__law_pick K { nx := fun _ H' => Q .non H', rt := Q } (start n__law_pick vs) H := by
  obtain ⟨p, a, xs, n, rfl, x0, x2, ha, hp, q⟩ := h
  have x1 : 0 < xs.length := List.length_pos_iff.mpr x0
  unfold t__law_pick
  repeat trivial
  refine s_lenL (SqL.ext ha off_le) ?_
  repeat trivial
  refine ⟨p, _, n, rfl, by omega, by omega, hp, fun d H' d0 d1 u hp' => ?_⟩
  obtain ⟨x, mx, ex⟩ := atI_in (xs := xs) d0 d1
  refine s_ixL ((ha.ext u.ext).ext off_le) ex ?_
  exact q x H' mx u hp'
theorem rd_number {vs : List V} {H : Hp} {Q : VK} {E : XK} (h : spNumber K vs H Q E) : t__law_number K { nx := fun _ H' => Q .non H', rt := Q } (start n__law_number vs) H := by
  obtain ⟨p, n, rfl, hp, q⟩ := h
  unfold t__law_number
  repeat trivial
  refine ⟨p, _, n + 2, rfl, by decide, by decide, hp, fun d H1 d0 d1 u1 hp1 => ?_⟩
  repeat trivial
  refine ite_b (fun e => ?_) (fun e => ?_)
  · repeat trivial
    refine ⟨p, _, n + 1, rfl, by decide, by decide, hp1, fun d2 H2 e0 e1 u2 hp2 => ?_⟩
    repeat trivial
    exact q _ _ (by omega) (by omega) (u1.trans u2) (hp2.less (by omega))
  repeat trivial
  refine ite_b (fun e => ?_) (fun e => ?_)
  · repeat trivial
    exact q _ _ (by omega) (by omega) u1 (hp1.less (by omega))
  repeat trivial
  refine ite_b (fun e => ?_) (fun e => ?_)
  · repeat trivial
    refine ⟨p, _, n + 1, rfl, by decide, by decide, hp1, fun d2 H2 e0 e1 u2 hp2 => ?_⟩
    repeat trivial
    exact q _ _ (by omega) (by omega) (u1.trans u2) (hp2.less (by omega))
  repeat trivial
  with_reducible refine s_ifW (fun v H2 => H2 = H1 ∧ ∃ b : Int, v = .int b ∧ 0 ≤ b ∧ b ≤ 10 ^ 40) (fun v H2 hv => ?_) (fun tail => ?_)
  · obtain ⟨rfl, b, rfl, b0, b1⟩ := hv
    repeat trivial
    refine ⟨p, _, n + 1, rfl, by decide, by decide, hp1, fun d2 H2 e0 e1 u2 hp2 => ?_⟩
    repeat trivial
    with_reducible refine s_ifJ ?_
    repeat trivial
    refine ⟨p, _, n, rfl, by decide, by decide, hp2, fun d3 H3 f0 f1 u3 hp3 => ?_⟩
    repeat trivial
    refine ite_b (fun e => ?_) (fun e => ?_)
    · repeat trivial
      exact q _ _ (by omega) (by omega) ((u1.trans u2).trans u3) hp3
    · repeat trivial
      exact q _ _ (by omega) (by omega) ((u1.trans u2).trans u3) hp3
  · repeat trivial
    refine ite_b (fun e => ?_) (fun e => ?_)
    · repeat trivial
      refine s_powI ⟨by decide, by decide, by decide⟩ ?_
      exact tail _ _ ⟨rfl, _, rfl, by decide, by decide⟩
    · repeat trivial
      refine s_powI ⟨by decide, by decide, by decide⟩ ?_
      exact tail _ _ ⟨rfl, _, rfl, by decide, by decide⟩
end
theorem ok_is_integer {P : Program} {w : World} {K : PySem.W.Frag} {mg : Str → Option Value} {base : Heap} {f : Addr} {fd : FuncData} (b_isinstance : mg "isinstance" = none) (b_int : mg "int" = none) (b_bool : mg "bool" = none)
    (F : FunD K "is_integer" "is_integer" (defArgs s_is_integer) (defBody s_is_integer) (defScope s_is_integer) [] [] f fd) : FnOk P w K mg base (L2.CX P w) 2 f fd ["value"] (spIsInt K) :=
  F.ok sc_is_integer (fun vs H Q E h => by obtain ⟨_, _, rfl, _⟩ := h; rfl) fun cdv A outer s H vs Q E hr h => ⟨t_is_integer K, (tm_is_integer b_isinstance b_int b_bool hr).nox, rd_is_integer h⟩

theorem ok__law_pen {P : Program} {w : World} {K : PySem.W.Frag} {mg : Str → Option Value} {base : Heap} {f : Addr} {fd : FuncData} (b_list : mg "list" = none)
    (F : FunD K "_law_pen" "_law_pen" (defArgs s__law_pen) (defBody s__law_pen) (defScope s__law_pen) [] [] f fd) : FnOk P w K mg base (L2.CX P w) 2 f fd ["_law_script"] (spPen K) :=
  F.ok sc__law_pen (fun vs H Q E h => by obtain ⟨_, _, rfl, _⟩ := h; rfl) fun cdv A outer s H vs Q E hr h => ⟨t__law_pen K, (tm__law_pen b_list hr).nox, rd_pen h⟩

theorem ok__law_draw {P : Program} {w : World} {K : PySem.W.Frag} {mg : Str → Option Value} {base : Heap} {f : Addr} {fd : FuncData} (b_int : mg "int" = none) (b_len : mg "len" = none) (b_abs : mg "abs" = none)
    (F : FunD K "_law_draw" "_law_draw" (defArgs s__law_draw) (defBody s__law_draw) (defScope s__law_draw) [] [] f fd) : FnOk P w K mg base (L2.CX P w) 2 f fd ["_law_pen_here", "_law_many"] (spDraw K) :=
  F.ok sc__law_draw (fun vs H Q E h => by obtain ⟨_, _, _, rfl, _⟩ := h; rfl) fun cdv A outer s H vs Q E hr h => ⟨t__law_draw K, (tm__law_draw b_int b_len b_abs hr).nox, rd_draw h⟩

theorem ok__law_pick {P : Program} {w : World} {K : PySem.W.Frag} {mg : Str → Option Value} {base : Heap} {f : Addr} {fd : FuncData} (b_len : mg "len" = none) (c__law_draw : Cl P w K mg base 2 "_law_draw" (spDraw K) [])
    (F : FunD K "_law_pick" "_law_pick" (defArgs s__law_pick) (defBody s__law_pick) (defScope s__law_pick) [] [] f fd) : FnOk P w K mg base (L2.CX P w) 3 f fd ["_law_pen_here", "_law_some"] (spPick K) :=
  F.ok sc__law_pick (fun vs H Q E h => by obtain ⟨_, _, _, _, rfl, _⟩ := h; rfl) fun cdv A outer s H vs Q E hr h => ⟨t__law_pick K, (tm__law_pick b_len c__law_draw hr).nox, rd_pick h⟩

theorem ok__law_number {P : Program} {w : World} {K : PySem.W.Frag} {mg : Str → Option Value} {base : Heap} {f : Addr} {fd : FuncData} (c__law_draw : Cl P w K mg base 2 "_law_draw" (spDraw K) [])
    (F : FunD K "_law_number" "_law_number" (defArgs s__law_number) (defBody s__law_number) (defScope s__law_number) [] [] f fd) : FnOk P w K mg base (L2.CX P w) 3 f fd ["_law_pen_here"] (spNumber K) :=
  F.ok sc__law_number (fun vs H Q E h => by obtain ⟨_, _, rfl, _⟩ := h; rfl) fun cdv A outer s H vs Q E hr h => ⟨t__law_number K, (tm__law_number c__law_draw hr).nox, rd_number h⟩

end K8
end
section
set_option linter.all false
set_option maxRecDepth 100000
set_option maxHeartbeats 4000000
open PySem PySem.Spec PyProof.Rows L2 Tk PySem.NumText
namespace K8
/-! ### texts of sums, as lists of signs -/
def names : List Str := ["p", "z0", "z1", "z2", "z3", "o", "s"]
def dec (i : Int) : Str := toString i
def sgn (n : Int) : Str := if 0 < n then "+" else "-"
def textOf (s : Str) (n : Int) : Str := if n = 0 then s else s ++ sgn n ++ dec (if n < 0 then -n else n)
def size (w : List Nat) : Nat := if w.take 1 = [122] then 2 else 1
def Good (ds : List Nat) : Prop := AllDigits ds ∧ ds ≠ [] ∧ ds.length ≤ 60 ∧ ds.head? ≠ some 48
def W (w : Str) (s : Str) (n : Int) : Prop := s.cps.toList = w.cps.toList.take (size w.cps.toList) ∧ names.contains s = true ∧
  ((w.cps.toList.drop (size w.cps.toList) = [] ∧ n = 0) ∨ ∃ c ds, w.cps.toList.drop (size w.cps.toList) = c :: ds ∧ Good ds ∧ ((c = 43 ∧ n = (digitsVal ds : Nat)) ∨ (c = 45 ∧ n = -((digitsVal ds : Nat) : Int))))
theorem str_ext {a b : Str} (h : a.cps.toList = b.cps.toList) : a = b := Str.ext' (Array.toList_inj.mp h)
theorem cps_app (a b : Str) : (a ++ b).cps.toList = a.cps.toList ++ b.cps.toList := by rw [Str.cps_append, Array.toList_append]
theorem W.uniq {w s t : Str} {n m : Int} (h : W w s n) (k : W w t m) : s = t ∧ n = m := by
  obtain ⟨h1, _, h2⟩ := h
  obtain ⟨k1, _, k2⟩ := k
  refine ⟨str_ext (h1.trans k1.symm), ?_⟩
  rcases h2 with ⟨e, rfl⟩ | ⟨c, ds, e, _, hn⟩
  · rcases k2 with ⟨_, rfl⟩ | ⟨c', ds', e', _, _⟩
    · rfl
    · rw [e] at e'; cases e'
  · rcases k2 with ⟨e', _⟩ | ⟨c', ds', e', _, hm⟩
    · rw [e] at e'; cases e'
    · rw [e] at e'
      cases e'
      rcases hn with ⟨rfl, rfl⟩ | ⟨rfl, rfl⟩ <;> rcases hm with ⟨h', rfl⟩ | ⟨h', rfl⟩
      · rfl
      · cases h'
      · cases h'
      · rfl
/-- the names, by their lengths -/
theorem name_size : ∀ s ∈ names, ∀ r : List Nat, size (s.cps.toList ++ r) = s.cps.toList.length ∧ s.cps.toList ≠ [] := by
  intro s hs r
  have h : ∀ s ∈ names, (s.cps.toList.length = 1 ∧ s.cps.toList.take 1 ≠ [122] ∧ s.cps.toList ≠ []) ∨ (s.cps.toList.length = 2 ∧ s.cps.toList.take 1 = [122] ∧ s.cps.toList ≠ []) := by decide +kernel
  have e : (s.cps.toList ++ r).take 1 = s.cps.toList.take 1 := by
    rcases h s hs with ⟨h1, _, h3⟩ | ⟨h1, _, h3⟩ <;>
    · cases q : s.cps.toList with
      | nil => exact absurd q h3
      | cons a l => rfl
  unfold size
  rw [e]
  rcases h s hs with ⟨h1, h2, h3⟩ | ⟨h1, h2, h3⟩
  · rw [if_neg h2]; exact ⟨h1.symm, h3⟩
  · rw [if_pos h2]; exact ⟨h1.symm, h3⟩
theorem W.of {s : Str} {n : Int} {w : Str} {r : List Nat} (hs : names.contains s = true) (hw : w.cps.toList = s.cps.toList ++ r) (h : (r = [] ∧ n = 0) ∨ ∃ c ds, r = c :: ds ∧ Good ds ∧ ((c = 43 ∧ n = (digitsVal ds : Nat)) ∨ (c = 45 ∧ n = -((digitsVal ds : Nat) : Int)))) : W w s n := by
  have hm : s ∈ names := by simpa using hs
  have z := (name_size s hm r).1
  have e1 : w.cps.toList.take (size w.cps.toList) = s.cps.toList := by rw [hw, z, List.take_left]
  have e2 : w.cps.toList.drop (size w.cps.toList) = r := by rw [hw, z, List.drop_left]
  refine ⟨e1.symm, hs, ?_⟩
  rw [e2]; exact h
theorem W.cut {w s : Str} {n : Int} (h : W w s n) : ∃ r, w.cps.toList = s.cps.toList ++ r ∧ ((r = [] ∧ n = 0) ∨ ∃ c ds, r = c :: ds ∧ Good ds ∧ ((c = 43 ∧ n = (digitsVal ds : Nat)) ∨ (c = 45 ∧ n = -((digitsVal ds : Nat) : Int)))) :=
  ⟨_, by rw [h.1, List.take_append_drop], h.2.2⟩
/-! digits -/
theorem dec_nat (m : Nat) : (dec (m : Int)).cps.toList = (Nat.toDigits 10 m).map Char.toNat := PySem.W.KIN.signs_num m
theorem digit_ok : ∀ d : Nat, d < 10 → 48 ≤ (Nat.digitChar d).toNat ∧ (Nat.digitChar d).toNat ≤ 57 ∧ (d ≠ 0 → (Nat.digitChar d).toNat ≠ 48) := by decide
theorem digits_all (m : Nat) : AllDigits ((Nat.toDigits 10 m).map Char.toNat) ∧ (Nat.toDigits 10 m).map Char.toNat ≠ [] ∧ (m ≠ 0 → ((Nat.toDigits 10 m).map Char.toNat).head? ≠ some 48) := by
  induction m using Nat.strongRecOn with
  | _ m ih =>
    by_cases h : m < 10
    · rw [Nat.toDigits_of_lt_base h]
      have e := digit_ok m h
      refine ⟨fun c hc => ?_, by simp, fun hm z => ?_⟩
      · simp only [List.map_cons, List.map_nil, List.mem_singleton] at hc
        subst hc; exact ⟨e.1, e.2.1⟩
      · simp only [List.map_cons, List.head?_cons, Option.some.injEq] at z
        exact e.2.2 hm z
    · have hm : m % 10 < 10 := Nat.mod_lt m (by decide)
      have t : Nat.toDigits 10 (m / 10) ++ Nat.toDigits 10 (m % 10) = Nat.toDigits 10 (10 * (m / 10) + m % 10) := Nat.toDigits_append_toDigits (by decide) (by omega) hm
      rw [Nat.div_add_mod] at t
      obtain ⟨i1, i2, i3⟩ := ih (m / 10) (by omega)
      obtain ⟨j1, j2, _⟩ := ih (m % 10) (by omega)
      rw [← t, List.map_append]
      refine ⟨fun c hc => ?_, by simp [i2], fun _ z => ?_⟩
      · rcases List.mem_append.mp hc with hc | hc
        · exact i1 c hc
        · exact j1 c hc
      · refine i3 (by omega) ?_
        cases q : (Nat.toDigits 10 (m / 10)).map Char.toNat with
        | nil => exact absurd q i2
        | cons a l => rw [q] at z; exact z
theorem dec_good {m : Nat} (h0 : m ≠ 0) (h : m < 10 ^ 60) : Good (dec (m : Int)).cps.toList ∧ digitsVal (dec (m : Int)).cps.toList = m := by
  rw [dec_nat]
  obtain ⟨h1, h2, h3⟩ := digits_all m
  refine ⟨⟨h1, h2, ?_, h3 h0⟩, PySem.W.KIN.val_back m⟩
  rw [List.length_map]
  exact digits10_le (by decide) h
theorem good_dec {ds : List Nat} (h : Good ds) : (dec ((digitsVal ds : Nat) : Int)).cps.toList = ds ∧ digitsVal ds ≠ 0 ∧ digitsVal ds < 10 ^ 60 := by
  obtain ⟨h1, h2, h3, h4⟩ := h
  obtain ⟨c, r, e⟩ : ∃ c r, ds = c :: r := by
    cases ds with
    | nil => exact absurd rfl h2
    | cons c r => exact ⟨c, r, rfl⟩
  have hc : 49 ≤ c := by
    have := h1 c (by rw [e]; exact List.mem_cons_self)
    have : c ≠ 48 := fun z => h4 (by rw [e, z]; rfl)
    omega
  refine ⟨?_, ?_, ?_⟩
  · rw [dec_nat, toDigits_digitsVal r.length ds (by rw [e]; rfl) h1 (Or.inr ⟨c, r, e, hc⟩), List.map_map]
    conv => rhs; rw [← List.map_id ds]
    refine List.map_congr_left fun d hd => ?_
    have := h1 d hd
    show (Char.ofNat d).toNat = d
    have : ∀ d : Nat, 48 ≤ d → d ≤ 57 → (Char.ofNat d).toNat = d := fun d a b => by
      have : d = 48 ∨ d = 49 ∨ d = 50 ∨ d = 51 ∨ d = 52 ∨ d = 53 ∨ d = 54 ∨ d = 55 ∨ d = 56 ∨ d = 57 := by omega
      rcases this with rfl | rfl | rfl | rfl | rfl | rfl | rfl | rfl | rfl | rfl <;> rfl
    exact this d (by omega) (by omega)
  · have := digitsVal_pos (cs := r) hc
    rw [e]; omega
  · have : ∀ (l : List Nat) (a : Nat), AllDigits l → l.foldl (fun acc c => acc * 10 + (c - 48)) a < (a + 1) * 10 ^ l.length := by
      intro l
      induction l with
      | nil => intro a _; simp
      | cons c l ih =>
        intro a hl
        have hc := hl.head
        refine Nat.lt_of_lt_of_le (ih _ hl.tail) ?_
        rw [List.length_cons, Nat.pow_succ]
        have : a * 10 + (c - 48) + 1 ≤ (a + 1) * 10 := by omega
        calc (a * 10 + (c - 48) + 1) * 10 ^ l.length ≤ ((a + 1) * 10) * 10 ^ l.length := Nat.mul_le_mul_right _ this
          _ = (a + 1) * (10 ^ l.length * 10) := by rw [Nat.mul_assoc, Nat.mul_comm 10]
    have k := this ds 0 h1
    refine Nat.lt_of_lt_of_le k ?_
    rw [Nat.zero_add, Nat.one_mul]
    exact Nat.pow_le_pow_right (by decide) h3
/-- the word of a sum -/
theorem textOf_W {s : Str} {n : Int} (hs : names.contains s = true) (hn : n.natAbs < 10 ^ 60) : W (textOf s n) s n := by
  unfold textOf
  by_cases h0 : n = 0
  · rw [if_pos h0]
    exact W.of hs (r := []) (by simp) (.inl ⟨rfl, h0⟩)
  · rw [if_neg h0]
    obtain ⟨m, hm⟩ : ∃ m : Nat, (if n < 0 then -n else n) = (m : Int) := ⟨n.natAbs, by split <;> omega⟩
    have hm0 : m ≠ 0 := by intro z; rw [z] at hm; split at hm <;> omega
    have hm1 : m < 10 ^ 60 := by
      have : m = n.natAbs := by split at hm <;> omega
      rw [this]; exact hn
    rw [hm]
    obtain ⟨g, v⟩ := dec_good hm0 hm1
    refine W.of hs (r := (sgn n).cps.toList ++ (dec (m : Int)).cps.toList) (by rw [cps_app, cps_app, List.append_assoc]) (.inr ?_)
    unfold sgn
    by_cases hp : 0 < n
    · rw [if_pos hp]
      refine ⟨43, (dec (m : Int)).cps.toList, rfl, g, .inl ⟨rfl, ?_⟩⟩
      rw [v]; rw [if_neg (by omega)] at hm; exact hm
    · rw [if_neg hp]
      refine ⟨45, (dec (m : Int)).cps.toList, rfl, g, .inr ⟨rfl, ?_⟩⟩
      rw [v]; rw [if_pos (by omega)] at hm; omega
theorem W_text {w s : Str} {n : Int} (h : W w s n) : names.contains s = true ∧ n.natAbs < 10 ^ 60 ∧ w = textOf s n := by
  obtain ⟨r, e, h3⟩ := h.cut
  refine ⟨h.2.1, ?_⟩
  rcases h3 with ⟨rfl, rfl⟩ | ⟨c, ds, rfl, g, hn⟩
  · refine ⟨by decide, ?_⟩
    unfold textOf
    rw [if_pos rfl]
    exact str_ext (by rw [e, List.append_nil])
  · obtain ⟨g1, g2, g3⟩ := good_dec g
    have abs_ : n.natAbs = digitsVal ds := by rcases hn with ⟨_, rfl⟩ | ⟨_, rfl⟩ <;> omega
    refine ⟨by omega, str_ext ?_⟩
    unfold textOf
    have h0 : n ≠ 0 := by omega
    rw [if_neg h0, cps_app, cps_app, e, List.append_assoc]
    congr 1
    rcases hn with ⟨rfl, hn⟩ | ⟨rfl, hn⟩
    · rw [if_neg (by omega), hn, g1]
      unfold sgn
      rw [if_pos (by omega)]
      rfl
    · rw [if_pos (by omega), hn, Int.neg_neg, g1]
      unfold sgn
      rw [if_neg (by omega)]
      rfl
/-! int(text) of a sign and figures -/
theorem intText_pos {x : Str} {ds : List Nat} (hx : x.cps.toList = 43 :: ds) (h : AllDigits ds) (h1 : ds ≠ []) (h2 : ds.length ≤ 4300) : PySem.intText? x = some ((digitsVal ds : Nat) : Int) := by
  have e1 : numTextOf x = x.cps.toList := by
    refine if_pos ?_
    rw [← Array.all_toList, List.all_eq_true, hx]
    intro c hc
    rcases List.mem_cons.mp hc with e | hc
    · subst e; rfl
    · have := h c hc
      exact decide_eq_true (by omega)
  have e2 : numSeenOf x = x.cps.toList := by
    show (numTextOf x).takeWhile _ = _
    rw [e1, hx]
    refine takeWhile_all fun c hc => ?_
    rcases List.mem_cons.mp hc with e | hc
    · subst e; rfl
    · have := h c hc
      exact bne_iff_ne.mpr (by omega)
  unfold PySem.intText?
  rw [e1, e2, hx]
  have es : sign ((43 :: ds).dropWhile blank) = (false, ds) := by rw [dropWhile_of (by decide)]; rfl
  have ec : core (43 :: ds) = ds := by
    unfold core
    rw [es]
    show (ds.reverse.dropWhile blank).reverse = ds
    rw [dropWhile_digits h.reverse, List.reverse_reverse]
  rw [ec, es, digits_of h h1]
  have hsz := push_size ds #[]
  have hv := push_foldl ds #[]
  rw [if_pos (beq_self_eq_true _)]
  show (if _ ≤ 4300 then some (worth false _) else none) = _
  rw [if_pos (by rw [hsz]; simp only [Array.size_empty]; omega)]
  unfold worth digitsVal
  rw [hv]
  rfl
theorem intText_signed {x : Str} {c : Nat} {ds : List Nat} (hx : x.cps.toList = c :: ds) (g : Good ds) (hc : c = 43 ∨ c = 45) : ∃ n : Int, PySem.intText? x = some n ∧ x.length ≤ 640 ∧ ((c = 43 ∧ n = (digitsVal ds : Nat)) ∨ (c = 45 ∧ n = -((digitsVal ds : Nat) : Int))) := by
  have hl : x.length = ds.length + 1 := by
    have e : x.cps.toList.length = x.length := Array.length_toList
    rw [← e, hx]; rfl
  have h3 := g.2.2.1
  rcases hc with rfl | rfl
  · exact ⟨_, intText_pos hx g.1 g.2.1 (by omega), by omega, .inl ⟨rfl, rfl⟩⟩
  · exact ⟨_, intText_neg hx g.1 g.2.1 (by omega), by omega, .inr ⟨rfl, rfl⟩⟩
/-! cuts -/
theorem cut_pre (z : Str) (k : Nat) : (cutS z none (some (k : Int))).cps.toList = z.cps.toList.take k := by
  have e : z.cps.toList.length = z.length := Array.length_toList
  unfold cutS
  rw [HT.sIx_none, HT.sIx_nat, List.drop_zero, Nat.sub_zero, ← e]
  simp [List.take_eq_take_iff]
theorem cut_suf (z : Str) (k : Nat) : (cutS z (some (k : Int)) none).cps.toList = z.cps.toList.drop k := by
  have e : z.cps.toList.length = z.length := Array.length_toList
  unfold cutS
  rw [HT.sIx_none, HT.sIx_nat, ← e]
  by_cases h : k ≤ z.cps.toList.length
  · rw [Nat.min_eq_left h, List.take_of_length_le (by rw [List.length_drop]; omega)]
  · rw [Nat.min_eq_right (by omega), List.drop_of_length_le (by omega), List.drop_of_length_le (by omega)]; simp
theorem cut_mid (z : Str) (k : Nat) : (cutS z (some (k : Int)) (some ((k + 1 : Nat) : Int))).cps.toList = (z.cps.toList.drop k).take 1 := by
  have e : z.cps.toList.length = z.length := Array.length_toList
  unfold cutS
  rw [HT.sIx_nat, HT.sIx_nat, ← e]
  by_cases h : k < z.cps.toList.length
  · rw [Nat.min_eq_left (by omega), Nat.min_eq_left (by omega)]
    show (_ : List Nat).take (k + 1 - k) = _
    rw [show k + 1 - k = 1 by omega]
  · rw [Nat.min_eq_right (by omega), Nat.min_eq_right (by omega), List.drop_of_length_le (l := z.cps.toList) (i := k) (by omega)]
    simp
theorem split_cons (w y : Str) : ∃ u r, Txt.split w y = u :: r ∧ u.length ≤ w.length ∧ (r = [] → u = w) := by
  have j := PySem.StrLaws.join_split w y
  have ne : Txt.split w y ≠ [] := by
    unfold Txt.split
    split
    · simp
    · split
      · simp
      · intro z
        have := congrArg List.length z
        rw [PySem.length_partsBetween] at this
        simp at this
  cases e : Txt.split w y with
  | nil => exact absurd e ne
  | cons u r =>
    rw [e] at j
    refine ⟨u, r, rfl, ?_, fun h => ?_⟩
    · cases r with
      | nil => rw [← j]; exact Nat.le_refl _
      | cons v r =>
        have k : u ++ y ++ Str.join y (v :: r) = w := j
        rw [← k, Str.length_append, Str.length_append]
        omega
    · subst h
      exact j
end K8
end
section
set_option linter.all false
set_option maxRecDepth 100000
set_option maxHeartbeats 4000000
open PySem PySem.Spec PyProof.Rows L2 Tk PySem.NumText
namespace K8
/-! ### sums -/
def rankOf (s : Str) : Int := (names.idxOf s : Nat)
def sumFs (s : Str) (n : Int) : List (Str × V) := [("source", .str s), ("number", .int n), ("rank", .int (rankOf s))]
def srcOk : V → Bool
  | .str s => names.contains s
  | _ => false
/-- raise of an exception of the class B -/
def raises (B : Addr) (fs : List Str) (vs : List V) (H : Hp) (E : XK) : Prop := ∀ d, H d = none → E (.ref B) (some d) (upd H d (.xd (fs.zip vs)))
def badSum (B : Addr) (part : Str) (H : Hp) (E : XK) : Prop := raises B ["part"] [.str part] H E
def badText (T : Addr) (i j : Int) (H : Hp) (E : XK) : Prop := raises T ["line", "word"] [.int i, .int j] H E
/-- what of the class K holds -/
structure SumC (K : PySem.W.Frag) (C : Addr) : Prop where
  own : OwnC K C
  nm : ∃ mc t u, ClX.CRead K C mc ∧ ClX.CVal K C mc "NAMES" (.ref t) u ∧ SqT K (fun _ => none) t (names.map V.str) ∧ ∃ o, K.lookup t = some o ∧ o.cls = .type "tuple" ∧ o.dict = none
  f1 : NoAttr K C "source"
  f2 : NoAttr K C "number"
  f3 : NoAttr K C "rank"
def spInit (K : PySem.W.Frag) (B C : Addr) : Sp := fun vs H Q E => ∃ x dx a b ga gb, vs = [.ref x, a, b] ∧ H x = some (.ins C dx []) ∧ Is K H a ga ∧ Is K H b gb ∧
  ((∃ s n, a = .str s ∧ names.contains s = true ∧ b = .int n ∧ Q .non (upd H x (.ins C dx (sumFs s n)))) ∨ (srcOk a = false ∧ badSum B "source" H E) ∨ (srcOk a = true ∧ isInt b = false ∧ badSum B "number" H E))
/-- a sum at a -/
def SumAt (C : Addr) (H : Hp) (a : Addr) (s : Str) (n : Int) : Prop := names.contains s = true ∧ ∃ dx, H a = some (.ins C dx (sumFs s n))
theorem SumAt.ext {C : Addr} {H H' : Hp} {a : Addr} {s : Str} {n : Int} (h : SumAt C H a s n) (e : Ext H H') : SumAt C H' a s n := ⟨h.1, h.2.elim fun dx q => ⟨dx, e _ _ q⟩⟩
/-- makes a sum, new -/
def given (C : Addr) (s : Str) (n : Int) (H : Hp) (Q : VK) : Prop := ∀ a H', H a = none → Ext H H' → SumAt C H' a s n → Q (.ref a) H'
theorem given.ext {C : Addr} {s : Str} {n : Int} {H H' : Hp} {Q : VK} (h : given C s n H Q) (e : Ext H H') : given C s n H' Q := fun a H2 na e2 hS => h a H2 ((Up.of (M := []) e).free na) (fun b o z => e2 _ _ (e _ _ z)) hS
def spAdd (K : PySem.W.Frag) (B C : Addr) (f : Int → Int → Int) : Sp := fun vs H Q E => ∃ a s n b gb, vs = [.ref a, b] ∧ SumAt C H a s n ∧ Is K H b gb ∧ ((∃ m, b = .int m ∧ given C s (f n m) H Q) ∨ (isInt b = false ∧ badSum B "number" H E))
def spCmp (K : PySem.W.Frag) (C : Addr) (f : Int × Int → Int × Int → Bool) : Sp := fun vs H Q _ => ∃ a s n b t m, vs = [.ref a, .ref b] ∧ SumAt C H a s n ∧ SumAt C H b t m ∧ ∀ H', Ext H H' → Q (.bl (f (rankOf s, n) (rankOf t, m))) H'
def spApart (K : PySem.W.Frag) (B C : Addr) : Sp := fun vs H Q E => ∃ a s n b gb, vs = [.ref a, b] ∧ SumAt C H a s n ∧ Is K H b gb ∧
  ((∃ c t m, b = .ref c ∧ SumAt C H c t m ∧ Q (if s = t then .int (n - m) else .non) H) ∨ ((∀ D, gb ≠ .own D) ∧ badSum B "other" H E))
def spValue (K : PySem.W.Frag) (B C : Addr) : Sp := fun vs H Q E => ∃ a s n b gb, vs = [.ref a, b] ∧ SumAt C H a s n ∧ Is K H b gb ∧
  ((∃ d kvs m, b = .ref d ∧ H d = some (.dK kvs) ∧ valV kvs (.inr s) = some (.int m) ∧ Q (.int (m + n)) H) ∨
   (∃ d kvs g, b = .ref d ∧ H d = some (.dK kvs) ∧ Is K H ((valV kvs (.inr s)).getD .non) g ∧ isInt ((valV kvs (.inr s)).getD .non) = false ∧ badSum B "numbers" H E) ∨
   (gb ≠ .dct ∧ badSum B "numbers" H E))
/-! ### texts -/
def spWritten : Sp := fun vs H Q _ => ∃ n : Int, vs = [.int n] ∧ n.natAbs < 10 ^ 60 ∧ Q (.str (dec n)) H
def spStr (C : Addr) : Sp := fun vs H Q _ => ∃ a s n, vs = [.ref a] ∧ SumAt C H a s n ∧ n.natAbs < 10 ^ 60 ∧ Q (.str (textOf s n)) H
/-- what a word gives: nothing, or a sum, new -/
def spSumIn (K : PySem.W.Frag) (C : Addr) : Sp := fun vs H Q _ => ∃ w : Str, vs = [.str w] ∧ w.length ≤ 1000000 ∧
  ((∀ s n, ¬ W w s n) → ∀ H', Ext H H' → Q .non H') ∧ (∀ s n, W w s n → given C s n H Q)
def head1 (w : Str) : Str := (Txt.split w " ").headD ""
def spRead (K : PySem.W.Frag) (T C : Addr) : Sp := fun vs H Q E => ∃ x g, vs = [x] ∧ Is K H x g ∧
  ((∃ w : Str, x = .str w ∧ w.length ≤ 1000000 ∧
     ((∀ s n, ¬ W (head1 w) s n) → ∀ H', Ext H H' → badText T 0 0 H' E) ∧
     (∀ s n, W (head1 w) s n → 1 < (Txt.split w " ").length → ∀ H', Ext H H' → badText T 0 1 H' E) ∧
     (∀ s n, W (head1 w) s n → ¬ 1 < (Txt.split w " ").length → given C s n H Q)) ∨
   (g ≠ .str ∧ badText T 0 0 H E))
local macro_rules | `(tactic| trivial) => `(tactic| first
  | with_reducible refine s_seq ?_
  | with_reducible refine s_asg ?_
  | with_reducible refine s_op ?_
  | with_reducible refine s_c ?_
  | with_reducible refine s_name ?_
  | with_reducible refine s_cb ?_
  | with_reducible refine s_cons ?_
  | with_reducible refine s_nil ?_
  | with_reducible refine s_call ?_
  | with_reducible refine s_ret ?_
  | with_reducible refine s_ifS ?_
  | with_reducible refine s_test ?_
  | with_reducible refine s_B ?_
  | with_reducible refine s_kB ?_
  | with_reducible refine s_kI ?_
  | with_reducible refine s_addI ?_
  | with_reducible refine s_subI ?_
  | with_reducible refine s_ltI ?_
  | with_reducible refine s_leI ?_
  | with_reducible refine s_gtI ?_
  | with_reducible refine s_geI ?_
  | with_reducible refine s_int1 ?_
  | with_reducible refine s_intB ?_
  | with_reducible refine s_abs ?_
  | with_reducible refine s_eq rfl ?_
  | with_reducible refine s_ne rfl ?_
  | with_reducible refine s_isN ?_
  | with_reducible refine s_notN ?_
  | with_reducible refine s_un ?_
  | with_reducible refine s_unI ?_
  | with_reducible refine s_and ?_
  | with_reducible refine s_or ?_
  | with_reducible refine s_not ?_
  | with_reducible refine s_andV ?_
  | with_reducible refine s_orV ?_
  | with_reducible refine s_notV ?_
  | with_reducible refine s_if ?_
  | with_reducible refine s_tup ?_
  | with_reducible refine s_lst ?_
  | with_reducible refine s_fldT ?_
  | with_reducible refine s_drop ?_
  | with_reducible refine s_sl ?_
  | with_reducible refine s_none ?_
  | with_reducible refine s_some ?_
  | with_reducible refine s_sub ?_
  | with_reducible refine s_cval ?_
  | with_reducible refine s_bm ?_
  | with_reducible refine s_m1 ?_
  | with_reducible refine s_par ?_
  | with_reducible refine s_par3 ?_
  | with_reducible refine s_raise ?_
  | with_reducible refine s_sfld ?_
  | with_reducible refine s_make ?_
  | with_reducible refine s_dget ?_
  | with_reducible refine s_dget1 ?_
  | with_reducible refine s_js ?_
  | with_reducible refine s_jn ?_
  | with_reducible refine s_fmt ?_
  | with_reducible refine s_join _ ?_
  | with_reducible refine s_next ?_
  | ((with_reducible refine s_var (v := ?_) ?_ ?_); rotate_left; focus rfl))
/-! written, slots: 0 number, 1 left, 2 text, 3 rest -/
abbrev s_written : Stmt := top 2
abbrev n_written : List Str := ["number", "left", "text", "rest"]
theorem sc_written : FnScope n_written ["number"] (defScope s_written) := ⟨rfl, rfl, rfl, by decide +kernel, rfl, by decide +kernel, by decide +kernel⟩
def t_written (K : PySem.W.Frag) : TS :=
  (tSeq (tPar 1 2 (tCons (tCB rAbs (tCons (tVar 0) tNil)) (tCons (tC (.str "")) tNil)))
    (tSeqJ (tWhile (tTest (tOp rGeI (tVar 1) (tOp rPowI (tC (.int 10)) (tC (.int 60)))))
    (tSeq tNoWay
    tNoWay))
    (tRet (tIfJ (tTest (tOp rLtI (tVar 0) (tC (.int 0)))) (tJoin [(tC (.str "-")), (tFmt (tVar 1)), (tFmt (tVar 2))]) (tJoin [(tFmt (tVar 1)), (tFmt (tVar 2))])))))
theorem tm_written {P : Program} {w : World} {K : PySem.W.Frag} {mg : Str → Option Value} {base : Heap} {f : Addr} {cdv : Value} {A : Around} {outer : List Env} {s : Shared} {H : Hp} {E : XK} (b_abs : mg "abs" = none)
    (hr : Room 1 (A.deeper (envOfC "written" (defScope s_written) s.heap.objs.size f cdv))) : PSs (cxOf (L2.CX P w) P w K mg base n_written "written" (defScope s_written) f cdv A outer s H E).nox (defBody s_written) (t_written K) :=
  (pss_cons (ps_par (i := 1) (j := 2) (by rfl) sc_written.nd (by rfl) (by rfl) (by decide) (by rfl) (by rfl) (pa_cons (pe_callB call_absI (by rfl) b_abs (by decide +kernel) (pa_cons (pv 0) pa_nil)) (pa_cons pe_str pa_nil)) (by rfl))
    (pss_consJ (ps_while PassesOwn.never (pt_cmpR oGeI (pv 1) (pe_op oPowI pe_int pe_int) (nomark _))
    (pss_cons ps_noWay
    (pss_one ps_noWay)))
    (pss_one (ps_ret (pe_ifJ (pt_cmpR oLtI (pv 0) pe_int (nomark _)) (pe_joined (.cons pe_str (.cons (pe_fmt (pv 1)) (.cons (pe_fmt (pv 2)) .nil)))) (pe_joined (.cons (pe_fmt (pv 1)) (.cons (pe_fmt (pv 2)) .nil))))))))

/-! Sum.__init__, slots: 0 self, 1 source, 2 number -/
abbrev s_Sum___init__ : Stmt := inClass (top 10) 1
abbrev n_Sum___init__ : List Str := ["self", "source", "number"]
theorem sc_Sum___init__ : FnScope n_Sum___init__ ["self", "source", "number"] (defScope s_Sum___init__) := ⟨rfl, rfl, rfl, by decide +kernel, rfl, by decide +kernel, by decide +kernel⟩
def t_Sum___init__ (K : PySem.W.Frag) (C B T : Addr) (E : XK) : TS :=
  (tSeqJ (tIfS (tOr (tNot (tB (tCB (rIsi K) (tCons (tVar 1) (tCons (tC (.ty "str")) tNil))))) (tTest (tOp (rIn K true) (tVar 1) (ClX.tCVal K (tC (.ref C)) "NAMES"))))
    (tRaiseX B ["part"] (fun cls d _ H => E cls d H) (tCons (tC (.str "source")) tNil))
    tNext)
    (tSeq (tIfS (tNot (tB (tCall (spIsInt K) [] E0 (tCons (tVar 2) tNil))))
    (tRaiseX B ["part"] (fun cls d _ H => E cls d H) (tCons (tC (.str "number")) tNil))
    tNext)
    (tSeq (sFld K (tVar 0) (tVar 1) "source")
    (tSeq (sFld K (tVar 0) (tVar 2) "number")
    (sFld K (tVar 0) (tBM K "tuple" (rTupIx K) (ClX.tCVal K (tC (.ref C)) "NAMES") (tCons (tVar 1) tNil)) "rank")))))
theorem tm_Sum___init__ {P : Program} {w : World} {K : PySem.W.Frag} {mg : Str → Option Value} {base : Heap} {f : Addr} {cdv : Value} {A : Around} {outer : List Env} {s : Shared} {H : Hp} {E : XK} {C B T : Addr} (b_isinstance : mg "isinstance" = none) (b_str : mg "str" = none) (g_Sum : ∃ u, mg "Sum" = some u ∧ RelV (.ref C) u) (x_BadSum : TkX.XCls P w K mg "BadSum" B ["part"]) (c_is_integer : Cl P w K mg base 2 "is_integer" (spIsInt K) [])
    (hr : Room 2 (A.deeper (envOfC "Sum.__init__" (defScope s_Sum___init__) s.heap.objs.size f cdv))) : PSs (cxOf (L2.CX P w) P w K mg base n_Sum___init__ "Sum.__init__" (defScope s_Sum___init__) f cdv A outer s H E) (defBody s_Sum___init__) (t_Sum___init__ K C B T E) := by
  have tk : Takes ((cxOf (L2.CX P w) P w K mg base n_Sum___init__ "Sum.__init__" (defScope s_Sum___init__) f cdv A outer s H E)) (fun cls d _ H => E cls d H) := takes_of rfl rfl rfl rfl
  have hx : Passes (L2.CX P w) ((cxOf (L2.CX P w) P w K mg base n_Sum___init__ "Sum.__init__" (defScope s_Sum___init__) f cdv A outer s H E)) E := passes_call tk fun _ _ _ _ h => h
  exact (pss_consJ (ps_if (PW.pt (pw_or (pt_not (pt_val (pe_callB call_isi (by rfl) b_isinstance (by decide +kernel) (pa_cons (pv 1) (pa_cons (pe_bltn (by rfl) b_str (by decide +kernel) rfl) pa_nil))))) (pw_or1 (pt_cmpR op_notIn_seq (pv 1) (ClX.pe_cval (C8.pe_gc (by rfl) g_Sum)) (by with_unfolding_all rfl)))))
    (pss_one (ps_raiseX x_BadSum (by rfl) hr tk (pa_cons pe_str pa_nil)))
    pss_nil)
    (pss_cons (ps_if (pt_not (pt_val (pe_cl c_is_integer hr (by decide) (by rfl) passL (pa_cons (pv 2) pa_nil))))
    (pss_one (ps_raiseX x_BadSum (by rfl) hr tk (pa_cons pe_str pa_nil)))
    pss_nil)
    (pss_cons (ps_fld (pv 0) (pv 1) (by rfl))
    (pss_cons (ps_fld (pv 0) (pv 2) (by rfl))
    (pss_one (ps_fld (pv 0) (pe_bm PySem.F.plainAttrs_tuple PySem.F.slot_tuple_index PySem.F.type_tuple_index mt_tupIx (ClX.pe_cval (C8.pe_gc (by rfl) g_Sum)) (pa_cons (pv 1) pa_nil)) (by rfl)))))))

/-! Sum.__add__, slots: 0 self, 1 other -/
abbrev s_Sum___add__ : Stmt := inClass (top 10) 2
abbrev n_Sum___add__ : List Str := ["self", "other"]
theorem sc_Sum___add__ : FnScope n_Sum___add__ ["self", "other"] (defScope s_Sum___add__) := ⟨rfl, rfl, rfl, by decide +kernel, rfl, by decide +kernel, by decide +kernel⟩
def t_Sum___add__ (K : PySem.W.Frag) (C B T : Addr) (E : XK) : TS :=
  (tSeq (tIfS (tNot (tB (tCall (spIsInt K) [] E0 (tCons (tVar 1) tNil))))
    (tRaiseX B ["part"] (fun cls d _ H => E cls d H) (tCons (tC (.str "number")) tNil))
    tNext)
    (tRet (tMake C (spInit K B C) [] E (tCons (tFld K (tVar 0) "source") (tCons (tOp rAddI (tFld K (tVar 0) "number") (tVar 1)) tNil)))))
theorem tm_Sum___add__ {P : Program} {w : World} {K : PySem.W.Frag} {mg : Str → Option Value} {base : Heap} {f : Addr} {cdv : Value} {A : Around} {outer : List Env} {s : Shared} {H : Hp} {E : XK} {C B T : Addr} (c_is_integer : Cl P w K mg base 2 "is_integer" (spIsInt K) []) (x_BadSum : TkX.XCls P w K mg "BadSum" B ["part"]) (m_Sum2 : Mkr P w K mg base 3 "Sum" C (spInit K B C) [])
    (hr : Room 4 (A.deeper (envOfC "Sum.__add__" (defScope s_Sum___add__) s.heap.objs.size f cdv))) : PSs (cxOf (L2.CX P w) P w K mg base n_Sum___add__ "Sum.__add__" (defScope s_Sum___add__) f cdv A outer s H E) (defBody s_Sum___add__) (t_Sum___add__ K C B T E) := by
  have tk : Takes ((cxOf (L2.CX P w) P w K mg base n_Sum___add__ "Sum.__add__" (defScope s_Sum___add__) f cdv A outer s H E)) (fun cls d _ H => E cls d H) := takes_of rfl rfl rfl rfl
  have hx : Passes (L2.CX P w) ((cxOf (L2.CX P w) P w K mg base n_Sum___add__ "Sum.__add__" (defScope s_Sum___add__) f cdv A outer s H E)) E := passes_call tk fun _ _ _ _ h => h
  exact (pss_cons (ps_if (pt_not (pt_val (pe_cl c_is_integer hr (by decide) (by rfl) passL (pa_cons (pv 1) pa_nil))))
    (pss_one (ps_raiseX x_BadSum (by rfl) hr tk (pa_cons pe_str pa_nil)))
    pss_nil)
    (pss_one (ps_ret (pe_mkr m_Sum2 hr (by decide) (by rfl) hx (pa_cons (pe_fld (pv 0) (by rfl)) (pa_cons (pe_op oAddI (pe_fld (pv 0) (by rfl)) (pv 1)) pa_nil))))))

/-! Sum.__sub__, slots: 0 self, 1 other -/
abbrev s_Sum___sub__ : Stmt := inClass (top 10) 3
abbrev n_Sum___sub__ : List Str := ["self", "other"]
theorem sc_Sum___sub__ : FnScope n_Sum___sub__ ["self", "other"] (defScope s_Sum___sub__) := ⟨rfl, rfl, rfl, by decide +kernel, rfl, by decide +kernel, by decide +kernel⟩
def t_Sum___sub__ (K : PySem.W.Frag) (C B T : Addr) (E : XK) : TS :=
  (tSeq (tIfS (tNot (tB (tCall (spIsInt K) [] E0 (tCons (tVar 1) tNil))))
    (tRaiseX B ["part"] (fun cls d _ H => E cls d H) (tCons (tC (.str "number")) tNil))
    tNext)
    (tRet (tMake C (spInit K B C) [] E (tCons (tFld K (tVar 0) "source") (tCons (tOp rSubI (tFld K (tVar 0) "number") (tVar 1)) tNil)))))
theorem tm_Sum___sub__ {P : Program} {w : World} {K : PySem.W.Frag} {mg : Str → Option Value} {base : Heap} {f : Addr} {cdv : Value} {A : Around} {outer : List Env} {s : Shared} {H : Hp} {E : XK} {C B T : Addr} (c_is_integer : Cl P w K mg base 2 "is_integer" (spIsInt K) []) (x_BadSum : TkX.XCls P w K mg "BadSum" B ["part"]) (m_Sum2 : Mkr P w K mg base 3 "Sum" C (spInit K B C) [])
    (hr : Room 4 (A.deeper (envOfC "Sum.__sub__" (defScope s_Sum___sub__) s.heap.objs.size f cdv))) : PSs (cxOf (L2.CX P w) P w K mg base n_Sum___sub__ "Sum.__sub__" (defScope s_Sum___sub__) f cdv A outer s H E) (defBody s_Sum___sub__) (t_Sum___sub__ K C B T E) := by
  have tk : Takes ((cxOf (L2.CX P w) P w K mg base n_Sum___sub__ "Sum.__sub__" (defScope s_Sum___sub__) f cdv A outer s H E)) (fun cls d _ H => E cls d H) := takes_of rfl rfl rfl rfl
  have hx : Passes (L2.CX P w) ((cxOf (L2.CX P w) P w K mg base n_Sum___sub__ "Sum.__sub__" (defScope s_Sum___sub__) f cdv A outer s H E)) E := passes_call tk fun _ _ _ _ h => h
  exact (pss_cons (ps_if (pt_not (pt_val (pe_cl c_is_integer hr (by decide) (by rfl) passL (pa_cons (pv 1) pa_nil))))
    (pss_one (ps_raiseX x_BadSum (by rfl) hr tk (pa_cons pe_str pa_nil)))
    pss_nil)
    (pss_one (ps_ret (pe_mkr m_Sum2 hr (by decide) (by rfl) hx (pa_cons (pe_fld (pv 0) (by rfl)) (pa_cons (pe_op oSubI (pe_fld (pv 0) (by rfl)) (pv 1)) pa_nil))))))

/-! Sum.__eq__, slots: 0 self, 1 other -/
abbrev s_Sum___eq__ : Stmt := inClass (top 10) 4
abbrev n_Sum___eq__ : List Str := ["self", "other"]
theorem sc_Sum___eq__ : FnScope n_Sum___eq__ ["self", "other"] (defScope s_Sum___eq__) := ⟨rfl, rfl, rfl, by decide +kernel, rfl, by decide +kernel, by decide +kernel⟩
def t_Sum___eq__ (K : PySem.W.Frag) (C B T : Addr) : TS :=
  (tSeq (tIfS (tNot (tB (tCB (rIsi K) (tCons (tVar 1) (tCons (tC (.ref C)) tNil)))))
    tNoWay
    tNext)
    (tRet (tOp (rEqD K) (tTup (tCons (tFld K (tVar 0) "rank") (tCons (tFld K (tVar 0) "number") tNil))) (tTup (tCons (tFld K (tVar 1) "rank") (tCons (tFld K (tVar 1) "number") tNil))))))
theorem tm_Sum___eq__ {P : Program} {w : World} {K : PySem.W.Frag} {mg : Str → Option Value} {base : Heap} {f : Addr} {cdv : Value} {A : Around} {outer : List Env} {s : Shared} {H : Hp} {E : XK} {C B T : Addr} (b_isinstance : mg "isinstance" = none) (g_Sum : ∃ u, mg "Sum" = some u ∧ RelV (.ref C) u)
    (hr : Room 1 (A.deeper (envOfC "Sum.__eq__" (defScope s_Sum___eq__) s.heap.objs.size f cdv))) : PSs (cxOf (L2.CX P w) P w K mg base n_Sum___eq__ "Sum.__eq__" (defScope s_Sum___eq__) f cdv A outer s H E).nox (defBody s_Sum___eq__) (t_Sum___eq__ K C B T) := by
  have hu64 := hr_u64 hr
  exact (pss_cons (ps_if (pt_not (pt_val (pe_callB call_isi (by rfl) b_isinstance (by decide +kernel) (pa_cons (pv 1) (pa_cons (C8.pe_gc (by rfl) g_Sum) pa_nil)))))
    (pss_one ps_noWay)
    pss_nil)
    (pss_one (ps_ret (pe_cmpR (op_eqD hu64) (pe_tup (pa_cons (pe_fld (pv 0) (by rfl)) (pa_cons (pe_fld (pv 0) (by rfl)) pa_nil))) (pe_tup (pa_cons (pe_fld (pv 1) (by rfl)) (pa_cons (pe_fld (pv 1) (by rfl)) pa_nil))) (nomark _)))))

/-! Sum.__lt__, slots: 0 self, 1 other -/
abbrev s_Sum___lt__ : Stmt := inClass (top 10) 5
abbrev n_Sum___lt__ : List Str := ["self", "other"]
theorem sc_Sum___lt__ : FnScope n_Sum___lt__ ["self", "other"] (defScope s_Sum___lt__) := ⟨rfl, rfl, rfl, by decide +kernel, rfl, by decide +kernel, by decide +kernel⟩
def t_Sum___lt__ (K : PySem.W.Frag) (C B T : Addr) : TS :=
  (tSeq (tIfS (tNot (tB (tCB (rIsi K) (tCons (tVar 1) (tCons (tC (.ref C)) tNil)))))
    tNoWay
    tNext)
    (tRet (tOp (rTlt K) (tTup (tCons (tFld K (tVar 0) "rank") (tCons (tFld K (tVar 0) "number") tNil))) (tTup (tCons (tFld K (tVar 1) "rank") (tCons (tFld K (tVar 1) "number") tNil))))))
theorem tm_Sum___lt__ {P : Program} {w : World} {K : PySem.W.Frag} {mg : Str → Option Value} {base : Heap} {f : Addr} {cdv : Value} {A : Around} {outer : List Env} {s : Shared} {H : Hp} {E : XK} {C B T : Addr} (b_isinstance : mg "isinstance" = none) (g_Sum : ∃ u, mg "Sum" = some u ∧ RelV (.ref C) u)
    (hr : Room 1 (A.deeper (envOfC "Sum.__lt__" (defScope s_Sum___lt__) s.heap.objs.size f cdv))) : PSs (cxOf (L2.CX P w) P w K mg base n_Sum___lt__ "Sum.__lt__" (defScope s_Sum___lt__) f cdv A outer s H E).nox (defBody s_Sum___lt__) (t_Sum___lt__ K C B T) := by
  have hu1 := hr_u hr
  exact (pss_cons (ps_if (pt_not (pt_val (pe_callB call_isi (by rfl) b_isinstance (by decide +kernel) (pa_cons (pv 1) (pa_cons (C8.pe_gc (by rfl) g_Sum) pa_nil)))))
    (pss_one ps_noWay)
    pss_nil)
    (pss_one (ps_ret (pe_cmpR (oTlt hu1) (pe_tup (pa_cons (pe_fld (pv 0) (by rfl)) (pa_cons (pe_fld (pv 0) (by rfl)) pa_nil))) (pe_tup (pa_cons (pe_fld (pv 1) (by rfl)) (pa_cons (pe_fld (pv 1) (by rfl)) pa_nil))) (nomark _)))))

/-! Sum.__le__, slots: 0 self, 1 other -/
abbrev s_Sum___le__ : Stmt := inClass (top 10) 6
abbrev n_Sum___le__ : List Str := ["self", "other"]
theorem sc_Sum___le__ : FnScope n_Sum___le__ ["self", "other"] (defScope s_Sum___le__) := ⟨rfl, rfl, rfl, by decide +kernel, rfl, by decide +kernel, by decide +kernel⟩
def t_Sum___le__ (K : PySem.W.Frag) (C B T : Addr) : TS :=
  (tSeq (tIfS (tNot (tB (tCB (rIsi K) (tCons (tVar 1) (tCons (tC (.ref C)) tNil)))))
    tNoWay
    tNext)
    (tRet (tOp (rTle K) (tTup (tCons (tFld K (tVar 0) "rank") (tCons (tFld K (tVar 0) "number") tNil))) (tTup (tCons (tFld K (tVar 1) "rank") (tCons (tFld K (tVar 1) "number") tNil))))))
theorem tm_Sum___le__ {P : Program} {w : World} {K : PySem.W.Frag} {mg : Str → Option Value} {base : Heap} {f : Addr} {cdv : Value} {A : Around} {outer : List Env} {s : Shared} {H : Hp} {E : XK} {C B T : Addr} (b_isinstance : mg "isinstance" = none) (g_Sum : ∃ u, mg "Sum" = some u ∧ RelV (.ref C) u)
    (hr : Room 1 (A.deeper (envOfC "Sum.__le__" (defScope s_Sum___le__) s.heap.objs.size f cdv))) : PSs (cxOf (L2.CX P w) P w K mg base n_Sum___le__ "Sum.__le__" (defScope s_Sum___le__) f cdv A outer s H E).nox (defBody s_Sum___le__) (t_Sum___le__ K C B T) := by
  have hu1 := hr_u hr
  exact (pss_cons (ps_if (pt_not (pt_val (pe_callB call_isi (by rfl) b_isinstance (by decide +kernel) (pa_cons (pv 1) (pa_cons (C8.pe_gc (by rfl) g_Sum) pa_nil)))))
    (pss_one ps_noWay)
    pss_nil)
    (pss_one (ps_ret (pe_cmpR (oTle hu1) (pe_tup (pa_cons (pe_fld (pv 0) (by rfl)) (pa_cons (pe_fld (pv 0) (by rfl)) pa_nil))) (pe_tup (pa_cons (pe_fld (pv 1) (by rfl)) (pa_cons (pe_fld (pv 1) (by rfl)) pa_nil))) (nomark _)))))

/-! Sum.__gt__, slots: 0 self, 1 other -/
abbrev s_Sum___gt__ : Stmt := inClass (top 10) 7
abbrev n_Sum___gt__ : List Str := ["self", "other"]
theorem sc_Sum___gt__ : FnScope n_Sum___gt__ ["self", "other"] (defScope s_Sum___gt__) := ⟨rfl, rfl, rfl, by decide +kernel, rfl, by decide +kernel, by decide +kernel⟩
def t_Sum___gt__ (K : PySem.W.Frag) (C B T : Addr) : TS :=
  (tSeq (tIfS (tNot (tB (tCB (rIsi K) (tCons (tVar 1) (tCons (tC (.ref C)) tNil)))))
    tNoWay
    tNext)
    (tRet (tOp (rTgt K) (tTup (tCons (tFld K (tVar 0) "rank") (tCons (tFld K (tVar 0) "number") tNil))) (tTup (tCons (tFld K (tVar 1) "rank") (tCons (tFld K (tVar 1) "number") tNil))))))
theorem tm_Sum___gt__ {P : Program} {w : World} {K : PySem.W.Frag} {mg : Str → Option Value} {base : Heap} {f : Addr} {cdv : Value} {A : Around} {outer : List Env} {s : Shared} {H : Hp} {E : XK} {C B T : Addr} (b_isinstance : mg "isinstance" = none) (g_Sum : ∃ u, mg "Sum" = some u ∧ RelV (.ref C) u)
    (hr : Room 1 (A.deeper (envOfC "Sum.__gt__" (defScope s_Sum___gt__) s.heap.objs.size f cdv))) : PSs (cxOf (L2.CX P w) P w K mg base n_Sum___gt__ "Sum.__gt__" (defScope s_Sum___gt__) f cdv A outer s H E).nox (defBody s_Sum___gt__) (t_Sum___gt__ K C B T) := by
  have hu1 := hr_u hr
  exact (pss_cons (ps_if (pt_not (pt_val (pe_callB call_isi (by rfl) b_isinstance (by decide +kernel) (pa_cons (pv 1) (pa_cons (C8.pe_gc (by rfl) g_Sum) pa_nil)))))
    (pss_one ps_noWay)
    pss_nil)
    (pss_one (ps_ret (pe_cmpR (oTgt hu1) (pe_tup (pa_cons (pe_fld (pv 0) (by rfl)) (pa_cons (pe_fld (pv 0) (by rfl)) pa_nil))) (pe_tup (pa_cons (pe_fld (pv 1) (by rfl)) (pa_cons (pe_fld (pv 1) (by rfl)) pa_nil))) (nomark _)))))

/-! Sum.__ge__, slots: 0 self, 1 other -/
abbrev s_Sum___ge__ : Stmt := inClass (top 10) 8
abbrev n_Sum___ge__ : List Str := ["self", "other"]
theorem sc_Sum___ge__ : FnScope n_Sum___ge__ ["self", "other"] (defScope s_Sum___ge__) := ⟨rfl, rfl, rfl, by decide +kernel, rfl, by decide +kernel, by decide +kernel⟩
def t_Sum___ge__ (K : PySem.W.Frag) (C B T : Addr) : TS :=
  (tSeq (tIfS (tNot (tB (tCB (rIsi K) (tCons (tVar 1) (tCons (tC (.ref C)) tNil)))))
    tNoWay
    tNext)
    (tRet (tOp (rTge K) (tTup (tCons (tFld K (tVar 0) "rank") (tCons (tFld K (tVar 0) "number") tNil))) (tTup (tCons (tFld K (tVar 1) "rank") (tCons (tFld K (tVar 1) "number") tNil))))))
theorem tm_Sum___ge__ {P : Program} {w : World} {K : PySem.W.Frag} {mg : Str → Option Value} {base : Heap} {f : Addr} {cdv : Value} {A : Around} {outer : List Env} {s : Shared} {H : Hp} {E : XK} {C B T : Addr} (b_isinstance : mg "isinstance" = none) (g_Sum : ∃ u, mg "Sum" = some u ∧ RelV (.ref C) u)
    (hr : Room 1 (A.deeper (envOfC "Sum.__ge__" (defScope s_Sum___ge__) s.heap.objs.size f cdv))) : PSs (cxOf (L2.CX P w) P w K mg base n_Sum___ge__ "Sum.__ge__" (defScope s_Sum___ge__) f cdv A outer s H E).nox (defBody s_Sum___ge__) (t_Sum___ge__ K C B T) := by
  have hu1 := hr_u hr
  exact (pss_cons (ps_if (pt_not (pt_val (pe_callB call_isi (by rfl) b_isinstance (by decide +kernel) (pa_cons (pv 1) (pa_cons (C8.pe_gc (by rfl) g_Sum) pa_nil)))))
    (pss_one ps_noWay)
    pss_nil)
    (pss_one (ps_ret (pe_cmpR (oTge hu1) (pe_tup (pa_cons (pe_fld (pv 0) (by rfl)) (pa_cons (pe_fld (pv 0) (by rfl)) pa_nil))) (pe_tup (pa_cons (pe_fld (pv 1) (by rfl)) (pa_cons (pe_fld (pv 1) (by rfl)) pa_nil))) (nomark _)))))

/-! Sum.apart, slots: 0 self, 1 other -/
abbrev s_Sum_apart : Stmt := inClass (top 10) 9
abbrev n_Sum_apart : List Str := ["self", "other"]
theorem sc_Sum_apart : FnScope n_Sum_apart ["self", "other"] (defScope s_Sum_apart) := ⟨rfl, rfl, rfl, by decide +kernel, rfl, by decide +kernel, by decide +kernel⟩
def t_Sum_apart (K : PySem.W.Frag) (C B T : Addr) (E : XK) : TS :=
  (tSeq (tIfS (tNot (tB (tCB (rIsi K) (tCons (tVar 1) (tCons (tC (.ref C)) tNil)))))
    (tRaiseX B ["part"] (fun cls d _ H => E cls d H) (tCons (tC (.str "other")) tNil))
    tNext)
    (tRet (tIfJ (tTest (tOp rEq (tFld K (tVar 0) "source") (tFld K (tVar 1) "source"))) (tOp rSubI (tFld K (tVar 0) "number") (tFld K (tVar 1) "number")) (tC .non))))
theorem tm_Sum_apart {P : Program} {w : World} {K : PySem.W.Frag} {mg : Str → Option Value} {base : Heap} {f : Addr} {cdv : Value} {A : Around} {outer : List Env} {s : Shared} {H : Hp} {E : XK} {C B T : Addr} (b_isinstance : mg "isinstance" = none) (g_Sum : ∃ u, mg "Sum" = some u ∧ RelV (.ref C) u) (x_BadSum : TkX.XCls P w K mg "BadSum" B ["part"])
    (hr : Room 1 (A.deeper (envOfC "Sum.apart" (defScope s_Sum_apart) s.heap.objs.size f cdv))) : PSs (cxOf (L2.CX P w) P w K mg base n_Sum_apart "Sum.apart" (defScope s_Sum_apart) f cdv A outer s H E) (defBody s_Sum_apart) (t_Sum_apart K C B T E) := by
  have tk : Takes ((cxOf (L2.CX P w) P w K mg base n_Sum_apart "Sum.apart" (defScope s_Sum_apart) f cdv A outer s H E)) (fun cls d _ H => E cls d H) := takes_of rfl rfl rfl rfl
  have hx : Passes (L2.CX P w) ((cxOf (L2.CX P w) P w K mg base n_Sum_apart "Sum.apart" (defScope s_Sum_apart) f cdv A outer s H E)) E := passes_call tk fun _ _ _ _ h => h
  exact (pss_cons (ps_if (pt_not (pt_val (pe_callB call_isi (by rfl) b_isinstance (by decide +kernel) (pa_cons (pv 1) (pa_cons (C8.pe_gc (by rfl) g_Sum) pa_nil)))))
    (pss_one (ps_raiseX x_BadSum (by rfl) hr tk (pa_cons pe_str pa_nil)))
    pss_nil)
    (pss_one (ps_ret (pe_ifJ (pt_cmpR op_eq (pe_fld (pv 0) (by rfl)) (pe_fld (pv 1) (by rfl)) (nomark _)) (pe_op oSubI (pe_fld (pv 0) (by rfl)) (pe_fld (pv 1) (by rfl))) pe_non))))

/-! Sum.value_in, slots: 0 self, 1 numbers -/
abbrev s_Sum_value_in : Stmt := inClass (top 10) 10
abbrev n_Sum_value_in : List Str := ["self", "numbers"]
theorem sc_Sum_value_in : FnScope n_Sum_value_in ["self", "numbers"] (defScope s_Sum_value_in) := ⟨rfl, rfl, rfl, by decide +kernel, rfl, by decide +kernel, by decide +kernel⟩
def t_Sum_value_in (K : PySem.W.Frag) (C B T : Addr) (E : XK) : TS :=
  (tSeqJ (tIfS (tOr (tNot (tB (tCB (rIsi K) (tCons (tVar 1) (tCons (tC (.ty "dict")) tNil))))) (tNot (tB (tCall (spIsInt K) [] E0 (tCons (tDGet1 (tVar 1) (tFld K (tVar 0) "source")) tNil)))))
    (tRaiseX B ["part"] (fun cls d _ H => E cls d H) (tCons (tC (.str "numbers")) tNil))
    tNext)
    (tRet (tOp rAddI (tDGet (tVar 1) (tFld K (tVar 0) "source")) (tFld K (tVar 0) "number"))))
theorem tm_Sum_value_in {P : Program} {w : World} {K : PySem.W.Frag} {mg : Str → Option Value} {base : Heap} {f : Addr} {cdv : Value} {A : Around} {outer : List Env} {s : Shared} {H : Hp} {E : XK} {C B T : Addr} (b_isinstance : mg "isinstance" = none) (b_dict : mg "dict" = none) (c_is_integer : Cl P w K mg base 2 "is_integer" (spIsInt K) []) (x_BadSum : TkX.XCls P w K mg "BadSum" B ["part"])
    (hr : Room 2 (A.deeper (envOfC "Sum.value_in" (defScope s_Sum_value_in) s.heap.objs.size f cdv))) : PSs (cxOf (L2.CX P w) P w K mg base n_Sum_value_in "Sum.value_in" (defScope s_Sum_value_in) f cdv A outer s H E) (defBody s_Sum_value_in) (t_Sum_value_in K C B T E) := by
  have tk : Takes ((cxOf (L2.CX P w) P w K mg base n_Sum_value_in "Sum.value_in" (defScope s_Sum_value_in) f cdv A outer s H E)) (fun cls d _ H => E cls d H) := takes_of rfl rfl rfl rfl
  have hx : Passes (L2.CX P w) ((cxOf (L2.CX P w) P w K mg base n_Sum_value_in "Sum.value_in" (defScope s_Sum_value_in) f cdv A outer s H E)) E := passes_call tk fun _ _ _ _ h => h
  have hu := hu_of hr
  exact (pss_consJ (ps_if (PW.pt (pw_or (pt_not (pt_val (pe_callB call_isi (by rfl) b_isinstance (by decide +kernel) (pa_cons (pv 1) (pa_cons (pe_bltn (by rfl) b_dict (by decide +kernel) rfl) pa_nil))))) (pw_or1 (pt_not (pt_val (pe_cl c_is_integer hr (by decide) (by rfl) passL (pa_cons (pe_dget1 hu (pv 1) (pe_fld (pv 0) (by rfl)) ⟨by rfl, by rfl, by rfl, by rfl⟩) pa_nil)))))))
    (pss_one (ps_raiseX x_BadSum (by rfl) hr tk (pa_cons pe_str pa_nil)))
    pss_nil)
    (pss_one (ps_ret (pe_op oAddI (pe_dget hu (pv 1) (pe_fld (pv 0) (by rfl)) (fun _ _ => rfl)) (pe_fld (pv 0) (by rfl))))))

/-! Sum.__str__, slots: 0 self -/
abbrev s_Sum___str__ : Stmt := inClass (top 10) 11
abbrev n_Sum___str__ : List Str := ["self"]
theorem sc_Sum___str__ : FnScope n_Sum___str__ ["self"] (defScope s_Sum___str__) := ⟨rfl, rfl, rfl, by decide +kernel, rfl, by decide +kernel, by decide +kernel⟩
def t_Sum___str__ (K : PySem.W.Frag) (C B T : Addr) : TS :=
  (tSeq (tIfS (tTest (tOp rEq (tFld K (tVar 0) "number") (tC (.int 0))))
    (tRet (tFmt (tFld K (tVar 0) "source")))
    tNext)
    (tSeq (tIfS (tTest (tOp rGtI (tFld K (tVar 0) "number") (tC (.int 0))))
    (tRet (tJoin [(tFmt (tFld K (tVar 0) "source")), (tC (.str "+")), (tFmt (tCall spWritten [] E0 (tCons (tFld K (tVar 0) "number") tNil)))]))
    tNext)
    (tRet (tJoin [(tFmt (tFld K (tVar 0) "source")), (tFmt (tCall spWritten [] E0 (tCons (tFld K (tVar 0) "number") tNil)))]))))
theorem tm_Sum___str__ {P : Program} {w : World} {K : PySem.W.Frag} {mg : Str → Option Value} {base : Heap} {f : Addr} {cdv : Value} {A : Around} {outer : List Env} {s : Shared} {H : Hp} {E : XK} {C B T : Addr} (c_written : Cl P w K mg base 2 "written" spWritten [])
    (hr : Room 2 (A.deeper (envOfC "Sum.__str__" (defScope s_Sum___str__) s.heap.objs.size f cdv))) : PSs (cxOf (L2.CX P w) P w K mg base n_Sum___str__ "Sum.__str__" (defScope s_Sum___str__) f cdv A outer s H E).nox (defBody s_Sum___str__) (t_Sum___str__ K C B T) :=
  (pss_cons (ps_if (pt_cmpR op_eq (pe_fld (pv 0) (by rfl)) pe_int (nomark _))
    (pss_one (ps_ret (pe_joined1 (pe_fmt (pe_fld (pv 0) (by rfl))))))
    pss_nil)
    (pss_cons (ps_if (pt_cmpR oGtI (pe_fld (pv 0) (by rfl)) pe_int (nomark _))
    (pss_one (ps_ret (pe_joined (.cons (pe_fmt (pe_fld (pv 0) (by rfl))) (.cons pe_str (.cons (pe_fmt (pe_cl c_written hr (by decide) (by rfl) passL (pa_cons (pe_fld (pv 0) (by rfl)) pa_nil))) .nil))))))
    pss_nil)
    (pss_one (ps_ret (pe_joined (.cons (pe_fmt (pe_fld (pv 0) (by rfl))) (.cons (pe_fmt (pe_cl c_written hr (by decide) (by rfl) passL (pa_cons (pe_fld (pv 0) (by rfl)) pa_nil))) .nil)))))))

/-! Sum.read, slots: 0 text, 1 words, 2 found -/
abbrev s_Sum_read : Stmt := inClass (top 10) 12
abbrev n_Sum_read : List Str := ["text", "words", "found"]
theorem sc_Sum_read : FnScope n_Sum_read ["text"] (defScope s_Sum_read) := ⟨rfl, rfl, rfl, by decide +kernel, rfl, by decide +kernel, by decide +kernel⟩
def t_Sum_read (K : PySem.W.Frag) (C B T : Addr) (E : XK) : TS :=
  (tSeq (tIfS (tNot (tB (tCB (rIsi K) (tCons (tVar 0) (tCons (tC (.ty "str")) tNil)))))
    (tRaiseX T ["line", "word"] (fun cls d _ H => E cls d H) (tCons (tC (.int 0)) (tCons (tC (.int 0)) tNil)))
    tNext)
    (tSeq (tAsg (tM1 rSplit (tVar 0) (tC (.str " "))) (gName 1))
    (tSeq (tAsg (tCall (spSumIn K C) [] E0 (tCons (tOp (rIxL K) (tVar 1) (tC (.int 0))) tNil)) (gName 2))
    (tSeq (tIfS (tTest (tOp rIsN (tVar 2) (tC .non)))
    (tRaiseX T ["line", "word"] (fun cls d _ H => E cls d H) (tCons (tC (.int 0)) (tCons (tC (.int 0)) tNil)))
    tNext)
    (tSeq (tIfS (tTest (tOp rGtI (tCB (rLenQ K) (tCons (tVar 1) tNil)) (tC (.int 1))))
    (tRaiseX T ["line", "word"] (fun cls d _ H => E cls d H) (tCons (tC (.int 0)) (tCons (tC (.int 1)) tNil)))
    tNext)
    (tRet (tVar 2)))))))
theorem tm_Sum_read {P : Program} {w : World} {K : PySem.W.Frag} {mg : Str → Option Value} {base : Heap} {f : Addr} {cdv : Value} {A : Around} {outer : List Env} {s : Shared} {H : Hp} {E : XK} {C B T : Addr} (b_isinstance : mg "isinstance" = none) (b_str : mg "str" = none) (x_BadText : TkX.XCls P w K mg "BadText" T ["line", "word"]) (c_sum_in : Cl P w K mg base 5 "sum_in" (spSumIn K C) []) (b_len : mg "len" = none)
    (hr : Room 5 (A.deeper (envOfC "Sum.read" (defScope s_Sum_read) s.heap.objs.size f cdv))) : PSs (cxOf (L2.CX P w) P w K mg base n_Sum_read "Sum.read" (defScope s_Sum_read) f cdv A outer s H E) (defBody s_Sum_read) (t_Sum_read K C B T E) := by
  have tk : Takes ((cxOf (L2.CX P w) P w K mg base n_Sum_read "Sum.read" (defScope s_Sum_read) f cdv A outer s H E)) (fun cls d _ H => E cls d H) := takes_of rfl rfl rfl rfl
  have hx : Passes (L2.CX P w) ((cxOf (L2.CX P w) P w K mg base n_Sum_read "Sum.read" (defScope s_Sum_read) f cdv A outer s H E)) E := passes_call tk fun _ _ _ _ h => h
  exact (pss_cons (ps_if (pt_not (pt_val (pe_callB call_isi (by rfl) b_isinstance (by decide +kernel) (pa_cons (pv 0) (pa_cons (pe_bltn (by rfl) b_str (by decide +kernel) rfl) pa_nil)))))
    (pss_one (ps_raiseX x_BadText (by rfl) hr tk (pa_cons pe_int (pa_cons pe_int pa_nil))))
    pss_nil)
    (pss_cons (ps_set (i := 1) sc_Sum_read.nd rfl (Or.inl rfl) (pe_m1 PySem.F.slot_str_split PySem.F.type_str_split mt_splitN (pv 0) pe_str))
    (pss_cons (ps_set (i := 2) sc_Sum_read.nd rfl (Or.inl rfl) (pe_cl c_sum_in hr (by decide) (by rfl) passL (pa_cons (pe_ix ix_list (pv 1) pe_int (fun _ _ => rfl)) pa_nil)))
    (pss_cons (ps_if (pt_cmpR op_isN1 (pv 2) pe_non (nomark _))
    (pss_one (ps_raiseX x_BadText (by rfl) hr tk (pa_cons pe_int (pa_cons pe_int pa_nil))))
    pss_nil)
    (pss_cons (ps_if (pt_cmpR oGtI (pe_callB call_lenQ (by rfl) b_len (by decide +kernel) (pa_cons (pv 1) pa_nil)) pe_int (nomark _))
    (pss_one (ps_raiseX x_BadText (by rfl) hr tk (pa_cons pe_int (pa_cons pe_int pa_nil))))
    pss_nil)
    (pss_one (ps_ret (pv 2))))))))

/-! sum_in, slots: 0 word, 1 size, 2 source, 3 sign, 4 figures, 5 figure -/
abbrev s_sum_in : Stmt := top 11
abbrev n_sum_in : List Str := ["word", "size", "source", "sign", "figures", "figure"]
theorem sc_sum_in : FnScope n_sum_in ["word"] (defScope s_sum_in) := ⟨rfl, rfl, rfl, by decide +kernel, rfl, by decide +kernel, by decide +kernel⟩
def t_sum_in (K : PySem.W.Frag) (C B T : Addr) : TS :=
  (tSeq (tAsg (tIfJ (tTest (tOp rEq (tSl rSlS (tVar 0) oNone (oSome (tC (.int 1)))) (tC (.str "z")))) (tC (.int 2)) (tC (.int 1))) (gName 1))
    (tSeq (tPar3 2 3 4 (tCons (tSl rSlS (tVar 0) oNone (oSome (tVar 1))) (tCons (tSl rSlS (tVar 0) (oSome (tVar 1)) (oSome (tOp rAddI (tVar 1) (tC (.int 1))))) (tCons (tSl rSlS (tVar 0) (oSome (tOp rAddI (tVar 1) (tC (.int 1)))) oNone) tNil))))
    (tSeq (tIfS (tTest (tOp (rIn K true) (tVar 2) (ClX.tCVal K (tC (.ref C)) "NAMES")))
    (tRet (tC .non))
    tNext)
    (tSeq (tIfS (tTest (tOp rEq (tVar 3) (tC (.str ""))))
    (tRet (tMake C (spInit K B C) [.int 0] E0 (tCons (tVar 2) tNil)))
    tNext)
    (tSeqJ (tIfS (tOr (tTest (tOp (rIn K true) (tVar 3) (tTup (tCons (tC (.str "+")) (tCons (tC (.str "-")) tNil))))) (tOr (tTest (tOp rEq (tVar 4) (tC (.str "")))) (tOr (tTest (tOp rGtI (tCB rLenS (tCons (tVar 4) tNil)) (tC (.int 60)))) (tTest (tOp rEq (tOp rIxS (tVar 4) (tC (.int 0))) (tC (.str "0")))))))
    (tRet (tC .non))
    tNext)
    (tSeq (tIfS (tB (tCB (rAny K) (tCons (tLc (iStr (tVar 4)) (gName 5) tYes (tOp rNotInS (tVar 5) (tC (.str "0123456789"))) [5]) tNil)))
    (tRet (tC .non))
    tNext)
    (tRet (tMake C (spInit K B C) [] E0 (tCons (tVar 2) (tCons (tCB rIntS (tCons (tOp rAddSt (tVar 3) (tVar 4)) tNil)) tNil))))))))))
theorem tm_sum_in {P : Program} {w : World} {K : PySem.W.Frag} {mg : Str → Option Value} {base : Heap} {f : Addr} {cdv : Value} {A : Around} {outer : List Env} {s : Shared} {H : Hp} {E : XK} {C B T : Addr} (g_Sum : ∃ u, mg "Sum" = some u ∧ RelV (.ref C) u) (m_Sum1 : Mkr P w K mg base 3 "Sum" C (spInit K B C) [.int 0]) (b_len : mg "len" = none) (g_LONGEST : ∃ u, mg "LONGEST" = some u ∧ RelV (.int 60) u) (b_any : mg "any" = none) (g_FIGURES : ∃ u, mg "FIGURES" = some u ∧ RelV (.str "0123456789") u) (b_int : mg "int" = none) (m_Sum2 : Mkr P w K mg base 3 "Sum" C (spInit K B C) [])
    (hr : Room 4 (A.deeper (envOfC "sum_in" (defScope s_sum_in) s.heap.objs.size f cdv))) : PSs (cxOf (L2.CX P w) P w K mg base n_sum_in "sum_in" (defScope s_sum_in) f cdv A outer s H E).nox (defBody s_sum_in) (t_sum_in K C B T) :=
  (pss_cons (ps_set (i := 1) sc_sum_in.nd rfl (Or.inl rfl) (pe_ifJ (pt_cmpR op_eq (pe_slice sl_str (pv 0) po_none (po_some pe_int)) pe_str (nomark _)) pe_int pe_int))
    (pss_cons (ps_par3 (i := 2) (j := 3) (l := 4) (by rfl) sc_sum_in.nd (by rfl) (by rfl) (by rfl) (by decide) (by decide) (by decide) (by rfl) (by rfl) (by rfl) (pa_cons (pe_slice sl_str (pv 0) po_none (po_some (pv 1))) (pa_cons (pe_slice sl_str (pv 0) (po_some (pv 1)) (po_some (pe_op oAddI (pv 1) pe_int))) (pa_cons (pe_slice sl_str (pv 0) (po_some (pe_op oAddI (pv 1) pe_int)) po_none) pa_nil))) (by rfl))
    (pss_cons (ps_if (pt_cmpR op_notIn_seq (pv 2) (ClX.pe_cval (C8.pe_gc (by rfl) g_Sum)) (by with_unfolding_all rfl))
    (pss_one (ps_ret pe_non))
    pss_nil)
    (pss_cons (ps_if (pt_cmpR op_eq (pv 3) pe_str (nomark _))
    (pss_one (ps_ret (pe_mkr m_Sum1 hr (by decide) (by rfl) passL (pa_cons (pv 2) pa_nil))))
    pss_nil)
    (pss_consJ (ps_if (PW.pt (pw_or (pt_cmpR op_notIn_seq (pv 3) (pe_tup (pa_cons pe_str (pa_cons pe_str pa_nil))) (by with_unfolding_all rfl)) (pw_or (pt_cmpR op_eq (pv 4) pe_str (nomark _)) (pw_or (pt_cmpR oGtI (pe_callB call_lenS (by rfl) b_len (by decide +kernel) (pa_cons (pv 4) pa_nil)) (C8.pe_gc (by rfl) g_LONGEST) (nomark _)) (pw_or1 (pt_cmpR op_eq (pe_ix ix_str (pv 4) pe_int (fun _ _ => rfl)) pe_str (nomark _)))))))
    (pss_one (ps_ret pe_non))
    pss_nil)
    (pss_cons (ps_if (pt_val (pe_callB (cr_any (by rfl)) (by rfl) b_any (by decide +kernel) (pa_cons (pe_lc (own := [("figure", 5)]) (g := (gName 5)) (tt := tYes) rfl sc_sum_in.nd (pi_str (pv 4)) (blkOk_by (own := [("figure", 5)]) (N := n_sum_in) (sc := defScope s_sum_in) (by decide +kernel)) (fun _ _ _ _ _ => (pg_name (i := 5) sc_sum_in.nd rfl (Or.inl rfl))) (fun _ _ _ _ _ => pts_nil) (fun _ _ _ _ _ => (pe_cmpR op_notInS (pv 5) (C8.pe_gc (by rfl) g_FIGURES) rfl))) pa_nil)))
    (pss_one (ps_ret pe_non))
    pss_nil)
    (pss_one (ps_ret (pe_mkr m_Sum2 hr (by decide) (by rfl) passL (pa_cons (pv 2) (pa_cons (pe_callTy call_intS (by rfl) b_int (by decide +kernel) (pa_cons (pe_op oAddS (pv 3) (pv 4)) pa_nil)) pa_nil)))))))))))

section
variable {K : PySem.W.Frag} {C B T : Addr}
theorem sl3 {n : Nat} (h : (n + 1).ble 1000 = true) : n < 1000 := Nat.le_of_ble_eq_true h
theorem names_ix : ∀ s ∈ names, names[names.idxOf s]? = some s ∧ ∀ m < names.idxOf s, names[m]? ≠ some s := by decide +kernel
theorem rd_init (S : SumC K C) {vs : List V} {H : Hp} {Q : VK} {E : XK} (h : spInit K B C vs H Q E) : t_Sum___init__ K C B T E { nx := fun _ H' => Q .non H', rt := Q } (start n_Sum___init__ vs) H := by
  obtain ⟨x, dx, a, b, ga, gb, rfl, hx, ia, ib, h⟩ := h
  obtain ⟨mc, t, u, cr, cv, sq, ⟨o, ho, hc, hd⟩⟩ := S.nm
  have sqt : ∀ H, SqT K H t (names.map V.str) := fun H => sq.ext fun _ _ z => nomatch z
  have gn : ga.isB "str" = false → srcOk a = false := fun e => by
    have z := ia.not_str e
    unfold srcOk
    split
    · exact absurd rfl (z _)
    · rfl
  have bad : srcOk a = false → badSum B "source" H E := fun e => by
    rcases h with ⟨s, n, rfl, hs, _⟩ | ⟨_, h⟩ | ⟨e', _⟩
    · rw [show srcOk (.str s) = names.contains s from rfl, hs] at e; cases e
    · exact h
    · rw [e] at e'; cases e'
  have ino : ∀ s, inV (.str s) (names.map V.str) = names.contains s := fun s => by
    unfold inV
    rw [List.any_map, Bool.eq_iff_iff, List.any_eq_true, List.contains_iff_mem]
    constructor
    · rintro ⟨y, hy, e⟩
      have e' : eqV (.str y) (.str s) = true := e
      have : y = s := by simpa [eqV] using e'
      exact this ▸ hy
    · intro hs
      exact ⟨s, hs, by simp [eqV]⟩
  unfold t_Sum___init__
  with_reducible refine s_seqW (fun s : Str => [some (.ref x), some (.str s), some b]) (fun s H' => H' = H ∧ names.contains s = true ∧ a = .str s) (fun s H' hw => ?_) (fun tail => ?_)
  · obtain ⟨rfl, hs, rfl⟩ := hw
    repeat trivial
    refine ⟨b, gb, rfl, ib, ?_⟩
    repeat trivial
    refine ite_n (fun e => ?_) (fun e => ?_)
    · repeat trivial
      refine ⟨rfl, ?_⟩
      rcases h with ⟨_, n, _, _, rfl, _⟩ | ⟨e', _⟩ | ⟨_, _, h⟩
      · cases e
      · rw [show srcOk (.str s) = names.contains s from rfl, hs] at e'; cases e'
      · exact h
    · repeat trivial
      refine ⟨x, C, dx, [], rfl, hx, S.own.cl, S.f1, by decide, ?_⟩
      repeat trivial
      refine ⟨x, C, dx, _, rfl, upd_same, S.own.cl, S.f2, sl3 rfl, ?_⟩
      repeat trivial
      refine ⟨C, mc, _, u, rfl, cr, cv, ?_⟩
      refine ⟨.inr (.inl ⟨rfl, o, ho, hc, hd⟩), ?_⟩
      repeat trivial
      have hm : s ∈ names := by simpa using hs
      refine ⟨t, names, s, names.idxOf s, rfl, rfl, sqt _, (names_ix s hm).1, (names_ix s hm).2, ?_⟩
      repeat trivial
      refine ⟨x, C, dx, _, rfl, upd_same, S.own.cl, S.f3, sl3 rfl, ?_⟩
      rw [upd_upd, upd_upd]
      rcases h with ⟨s', n, es, _, rfl, q⟩ | ⟨e', _⟩ | ⟨_, e', h⟩
      · cases es; exact q
      · rw [show srcOk (.str s) = names.contains s from rfl, hs] at e'; cases e'
      · rw [e] at e'; cases e'
  · repeat trivial
    refine s_isiB ia (by decide) ?_
    repeat trivial
    cases e1 : ga.isB "str" with
    | false =>
      repeat trivial
      refine ite_t (α := Unit) ?_
      refine ite_t (α := Unit) ?_
      repeat trivial
      exact ⟨rfl, bad (gn e1)⟩
    | true =>
      obtain ⟨s, rfl⟩ := ia.str_of e1
      refine ite_f ?_
      repeat trivial
      refine ⟨C, mc, _, u, rfl, cr, cv, ?_⟩
      refine ⟨t, _, rfl, .inr (sqt _), rfl, flat_strs _, ?_⟩
      repeat trivial
      rw [if_pos rfl, ino]
      refine ite_n (fun e => ?_) (fun e => ?_)
      · repeat trivial
        exact ⟨rfl, bad e⟩
      · exact tail s H ⟨rfl, e, rfl⟩
theorem dec_neg {n : Int} (h : n < 0) : dec n = ("-" : Str) ++ dec (-n) := by
  unfold dec
  rw [toString_neg h, Int.zero_sub]
  refine str_ext ?_
  rw [cps_app, PySem.Str.ofString_eq_toList, PySem.Str.ofString_eq_toList, PySem.Str.ofString_eq_toList]
  simp
theorem dec_short {n : Int} (h0 : 0 ≤ n) (h : n < 10 ^ 60) : (dec n).length ≤ 60 := toString_length_le h0 (by decide) h
theorem log_short {n : Int} (h : n.natAbs < 10 ^ 60) : n.natAbs.log2 < 1920 := by
  by_cases z : n.natAbs = 0
  · rw [z]; decide
  · exact Nat.lt_trans ((Nat.log2_lt z).mpr (Nat.lt_trans h (show 10 ^ 60 < 2 ^ 200 by decide))) (by decide)
theorem app_e {x : Str} : x ++ ("" : Str) = x := str_ext (by rw [cps_app]; exact List.append_nil _)
theorem e_app {x : Str} : Str.empty ++ x = x := str_ext (by rw [cps_app]; exact List.nil_append _)
theorem len_app {x y : Str} : (x ++ y).length = x.length + y.length := Str.length_append x y
theorem rd_written {vs : List V} {H : Hp} {Q : VK} {E : XK} (h : spWritten vs H Q E) : t_written K { nx := fun _ H' => Q .non H', rt := Q } (start n_written vs) H := by
  obtain ⟨n, rfl, hn, q⟩ := h
  have hz : (60 : Nat) + 60 ≤ sizeLine := by decide
  unfold t_written
  repeat trivial
  refine ⟨_, _, rfl, ?_⟩
  with_reducible refine s_seqJ ?_
  refine s_while ⟨fun _ σ' H' => σ' = [some (.int n), some (.int (if n < 0 then -n else n)), some (.str ""), none] ∧ H' = H, ⟨0, rfl, rfl⟩, fun m σ' H' hw => ?_⟩
  obtain ⟨rfl, rfl⟩ := hw
  repeat trivial
  refine s_powI ⟨by decide, by decide, by decide⟩ ?_
  repeat trivial
  obtain ⟨a, ha⟩ : ∃ a : Int, (if n < 0 then -n else n) = a := ⟨_, rfl⟩
  have ha0 : 0 ≤ a := by rw [← ha]; split <;> omega
  have ha1 : a < 10 ^ 60 := by rw [← ha]; split <;> omega
  have ha2 : a.natAbs < 10 ^ 60 := by omega
  have la := dec_short ha0 ha1
  rw [ha]
  have e0 : decide ((10 : Int) ^ Int.toNat 60 ≤ a) = false := decide_eq_false fun z => by
    have z1 : ((10 : Int) ^ Int.toNat 60) = 10 ^ 60 := rfl
    rw [z1] at z; omega
  rw [e0]
  refine ite_f ?_
  repeat trivial
  with_reducible refine s_ifJ ?_
  repeat trivial
  refine ite_b (fun e => ?_) (fun e => ?_)
  · have hneg := of_decide_eq_true e
    have l1 : ("-" : Str).length = 1 := rfl
    have l0 : ("" : Str).length = 0 := rfl
    repeat trivial
    refine s_kJ (by rw [e_app, l1]; omega) ?_
    repeat trivial
    refine s_kFI (log_short ha2) ?_
    refine s_kJ (by rw [e_app, len_app, l1]; show 1 + (dec a).length ≤ _; omega) ?_
    repeat trivial
    refine s_kFS (by rw [l0]; omega) ?_
    refine s_kJ (by rw [e_app, app_e, len_app, l1]; show 1 + (dec a).length ≤ _; omega) ?_
    repeat trivial
    rw [e_app, app_e]
    have z := dec_neg hneg
    rw [if_pos hneg] at ha
    rw [ha] at z
    rw [z] at q; exact q
  · have hneg := of_decide_eq_false e
    have l0 : ("" : Str).length = 0 := rfl
    repeat trivial
    refine s_kFI (log_short ha2) ?_
    refine s_kJ (by rw [e_app]; show (dec a).length ≤ _; omega) ?_
    repeat trivial
    refine s_kFS (by rw [l0]; omega) ?_
    refine s_kJ (by rw [e_app, app_e]; show (dec a).length ≤ _; omega) ?_
    repeat trivial
    rw [e_app, app_e]
    rw [if_neg hneg] at ha
    rw [← ha]; exact q
/-! ### the sums' methods -/
theorem SumAt.is (S : SumC K C) {H : Hp} {a : Addr} {s : Str} {n : Int} (h : SumAt C H a s n) : Is K H (.ref a) (.own C) := h.2.elim fun dx e => .own e S.own
theorem f_src (S : SumC K C) {H : Hp} {a : Addr} {s : Str} {n : Int} {Q : VK} (h : SumAt C H a s n) (q : Q (.str s) H) : kFld K "source" Q (.ref a) H :=
  h.2.elim fun dx e => ⟨a, C, dx, _, _, rfl, e, S.own.cl, S.f1, rfl, q⟩
theorem f_num (S : SumC K C) {H : Hp} {a : Addr} {s : Str} {n : Int} {Q : VK} (h : SumAt C H a s n) (q : Q (.int n) H) : kFld K "number" Q (.ref a) H :=
  h.2.elim fun dx e => ⟨a, C, dx, _, _, rfl, e, S.own.cl, S.f2, rfl, q⟩
theorem f_rank (S : SumC K C) {H : Hp} {a : Addr} {s : Str} {n : Int} {Q : VK} (h : SumAt C H a s n) (q : Q (.int (rankOf s)) H) : kFld K "rank" Q (.ref a) H :=
  h.2.elim fun dx e => ⟨a, C, dx, _, _, rfl, e, S.own.cl, S.f3, rfl, q⟩
/-- the making of a sum, as its callers see it -/
theorem s_new {H : Hp} {E : XK} {Q : VK} {s : Str} {n : Int} (hs : names.contains s = true) (q : given C s n H Q) :
    ∀ x dx, H x = none → H dx = none → dx ≠ x → spInit K B C (.ref x :: ([.str s, .int n] ++ [])) (upd (upd H dx (.own x)) x (.ins C dx [])) (fun v H2 => v = .non ∧ Q (.ref x) H2) E := by
  intro x dx hx hd hne
  refine ⟨x, dx, _, _, .str, .int, rfl, upd_same, .str s, .int n, .inl ⟨s, n, rfl, hs, rfl, rfl, ?_⟩⟩
  rw [upd_upd]
  exact q x _ hx (fun b o e => by rw [upd_ne (ne_of_none e hx), upd_ne (ne_of_none e hd)]; exact e) ⟨hs, dx, upd_same⟩
theorem rd_add (S : SumC K C) {vs : List V} {H : Hp} {Q : VK} {E : XK} (h : spAdd K B C (fun i j => i + j) vs H Q E) : t_Sum___add__ K C B T E { nx := fun _ H' => Q .non H', rt := Q } (start n_Sum___add__ vs) H := by
  obtain ⟨a, s, n, b, gb, rfl, ha, ib, h⟩ := h
  unfold t_Sum___add__
  repeat trivial
  refine ⟨b, gb, rfl, ib, ?_⟩
  repeat trivial
  refine ite_n (fun e => ?_) (fun e => ?_)
  · repeat trivial
    refine ⟨rfl, ?_⟩
    rcases h with ⟨m, rfl, _⟩ | ⟨_, h⟩
    · cases e
    · exact h
  · rcases h with ⟨m, rfl, q⟩ | ⟨e', _⟩
    · repeat trivial
      refine f_src S ha ?_
      repeat trivial
      refine f_num S ha ?_
      repeat trivial
      exact s_new ha.1 q
    · rw [e] at e'; cases e'
theorem rd_sub (S : SumC K C) {vs : List V} {H : Hp} {Q : VK} {E : XK} (h : spAdd K B C (fun i j => i - j) vs H Q E) : t_Sum___sub__ K C B T E { nx := fun _ H' => Q .non H', rt := Q } (start n_Sum___sub__ vs) H := by
  obtain ⟨a, s, n, b, gb, rfl, ha, ib, h⟩ := h
  unfold t_Sum___sub__
  repeat trivial
  refine ⟨b, gb, rfl, ib, ?_⟩
  repeat trivial
  refine ite_n (fun e => ?_) (fun e => ?_)
  · repeat trivial
    refine ⟨rfl, ?_⟩
    rcases h with ⟨m, rfl, _⟩ | ⟨_, h⟩
    · cases e
    · exact h
  · rcases h with ⟨m, rfl, q⟩ | ⟨e', _⟩
    · repeat trivial
      refine f_src S ha ?_
      repeat trivial
      refine f_num S ha ?_
      repeat trivial
      exact s_new ha.1 q
    · rw [e] at e'; cases e'
def eqP (x y : Int × Int) : Bool := decide (x.1 = y.1) && decide (x.2 = y.2)
def ltP (x y : Int × Int) : Bool := if x.1 = y.1 then decide (x.2 < y.2) else decide (x.1 < y.1)
def leP (x y : Int × Int) : Bool := if x.1 = y.1 then decide (x.2 ≤ y.2) else decide (x.1 ≤ y.1)
def gtP (x y : Int × Int) : Bool := ltP y x
def geP (x y : Int × Int) : Bool := leP y x
theorem rd_cmp (S : SumC K C) {r : R2} {f : Int × Int → Int × Int → Bool} (hr : ∀ {H : Hp} {a b : Addr} {Q : VK} {i n j m : Int}, SqT K H a ([i, n].map V.int) → SqT K H b ([j, m].map V.int) → Q (.bl (f (i, n) (j, m))) H → r (.ref a) (.ref b) H Q)
    {vs : List V} {H : Hp} {Q : VK} {E : XK} (h : spCmp K C f vs H Q E) :
    (tSeq (tIfS (tNot (tB (tCB (rIsi K) (tCons (tVar 1) (tCons (tC (.ref C)) tNil))))) tNoWay tNext)
    (tRet (tOp r (tTup (tCons (tFld K (tVar 0) "rank") (tCons (tFld K (tVar 0) "number") tNil))) (tTup (tCons (tFld K (tVar 1) "rank") (tCons (tFld K (tVar 1) "number") tNil))))))
    { nx := fun _ H' => Q .non H', rt := Q } (start ["self", "other"] vs) H := by
  obtain ⟨a, s, n, b, t, m, rfl, ha, hb, q⟩ := h
  repeat trivial
  refine s_isiO (hb.is S) S.own.yes ?_
  repeat trivial
  refine ite_n (fun e => nomatch e) (fun _ => ?_)
  repeat trivial
  refine f_rank S ha ?_
  repeat trivial
  refine f_num S ha ?_
  repeat trivial
  refine ⟨sl rfl, fun p1 h1 => ?_⟩
  have x1 := ext_new (o := .tup [.int (rankOf s), .int n]) h1
  repeat trivial
  refine f_rank S (hb.ext x1) ?_
  repeat trivial
  refine f_num S (hb.ext x1) ?_
  repeat trivial
  refine ⟨sl rfl, fun p2 h2 => ?_⟩
  have x2 := ext_new (o := .tup [.int (rankOf t), .int m]) h2
  refine hr (SqT.of (x2 _ _ upd_same)) (SqT.of upd_same) ?_
  exact q _ (fun b o e => x2 _ _ (x1 _ _ e))
theorem eq_pair {i n j m : Int} : PyData.eqv (.tuple [.int i, .int n]) (.tuple [.int j, .int m]) = eqP (i, n) (j, m) := by
  show ((i == j) && ((n == m) && true)) = _
  unfold eqP
  rw [Bool.and_true]
  congr 1
theorem dp_pair {H : Hp} {a : Addr} {i n : Int} (h : SqT K H a ([i, n].map V.int)) : Dp K H (.ref a) (.tuple [.int i, .int n]) := .tup h (.cons (.int i) (.cons (.int n) .nil))
theorem lex_pair {e r : Nat → Bool} {z : Bool} : Ob.lexAt e r z 0 2 = if e 0 = true then (if e 1 = true then z else r 1) else r 0 := rfl
theorem rd_eq (S : SumC K C) {vs : List V} {H : Hp} {Q : VK} {E : XK} (h : spCmp K C eqP vs H Q E) : t_Sum___eq__ K C B T { nx := fun _ H' => Q .non H', rt := Q } (start n_Sum___eq__ vs) H :=
  rd_cmp S (r := rEqD K) (fun ha hb q => s_eqD (dp_pair ha) (dp_pair hb) rfl rfl (by rw [eq_pair]; exact q)) h
theorem rd_lt (S : SumC K C) {vs : List V} {H : Hp} {Q : VK} {E : XK} (h : spCmp K C ltP vs H Q E) : t_Sum___lt__ K C B T { nx := fun _ H' => Q .non H', rt := Q } (start n_Sum___lt__ vs) H :=
  rd_cmp S (r := rTlt K) (fun {H a b Q i n j m} ha hb q => ⟨a, b, [i, n], [j, m], rfl, rfl, ha, hb, by
    have z : HT.lexLt [i, n] [j, m] = ltP (i, n) (j, m) := by
      unfold ltP HT.lexLt HT.lexLt HT.lexLt
      by_cases h1 : i = j
      · rw [if_pos h1, if_pos h1]
        by_cases h2 : n = m
        · rw [if_pos h2]; exact (decide_eq_false (by omega)).symm
        · rw [if_neg h2]
      · rw [if_neg h1, if_neg h1]
    rw [z]; exact q⟩) h
theorem rd_le (S : SumC K C) {vs : List V} {H : Hp} {Q : VK} {E : XK} (h : spCmp K C leP vs H Q E) : t_Sum___le__ K C B T { nx := fun _ H' => Q .non H', rt := Q } (start n_Sum___le__ vs) H :=
  rd_cmp S (r := rTle K) (fun {H a b Q i n j m} ha hb q => ⟨a, b, [i, n], [j, m], rfl, rfl, ha, hb, by
    show Q (.bl (Ob.lexAt _ _ true 0 2)) H
    rw [lex_pair]
    have z : (if decide (i = j) = true then (if decide (n = m) = true then true else decide (n ≤ m)) else decide (i ≤ j)) = leP (i, n) (j, m) := by
      unfold leP
      by_cases h1 : i = j <;> by_cases h2 : n = m <;> simp [h1, h2]
    exact z ▸ q⟩) h
theorem rd_gt (S : SumC K C) {vs : List V} {H : Hp} {Q : VK} {E : XK} (h : spCmp K C gtP vs H Q E) : t_Sum___gt__ K C B T { nx := fun _ H' => Q .non H', rt := Q } (start n_Sum___gt__ vs) H :=
  rd_cmp S (r := rTgt K) (fun {H a b Q i n j m} ha hb q => ⟨a, b, [i, n], [j, m], rfl, rfl, ha, hb, by
    show Q (.bl (Ob.lexAt _ _ false 0 2)) H
    rw [lex_pair]
    have z : (if decide (i = j) = true then (if decide (n = m) = true then false else decide (m < n)) else decide (j < i)) = gtP (i, n) (j, m) := by
      unfold gtP ltP
      by_cases h1 : i = j <;> by_cases h2 : n = m <;> simp [h1, h2, eq_comm]
    exact z ▸ q⟩) h
theorem rd_ge (S : SumC K C) {vs : List V} {H : Hp} {Q : VK} {E : XK} (h : spCmp K C geP vs H Q E) : t_Sum___ge__ K C B T { nx := fun _ H' => Q .non H', rt := Q } (start n_Sum___ge__ vs) H :=
  rd_cmp S (r := rTge K) (fun {H a b Q i n j m} ha hb q => ⟨a, b, [i, n], [j, m], rfl, rfl, ha, hb, by
    show Q (.bl (Ob.lexAt _ _ true 0 2)) H
    rw [lex_pair]
    have z : (if decide (i = j) = true then (if decide (n = m) = true then true else decide (m ≤ n)) else decide (j ≤ i)) = geP (i, n) (j, m) := by
      unfold geP leP
      by_cases h1 : i = j <;> by_cases h2 : n = m <;> simp [h1, h2, eq_comm]
    exact z ▸ q⟩) h
theorem rd_apart (S : SumC K C) {vs : List V} {H : Hp} {Q : VK} {E : XK} (h : spApart K B C vs H Q E) : t_Sum_apart K C B T E { nx := fun _ H' => Q .non H', rt := Q } (start n_Sum_apart vs) H := by
  obtain ⟨a, s, n, b, gb, rfl, ha, ib, h⟩ := h
  unfold t_Sum_apart
  repeat trivial
  rcases h with ⟨c, t, m, rfl, hc, q⟩ | ⟨ng, h⟩
  · refine s_isiO (hc.is S) S.own.yes ?_
    repeat trivial
    refine ite_n (fun e => nomatch e) (fun _ => ?_)
    repeat trivial
    with_reducible refine s_ifJ ?_
    repeat trivial
    refine f_src S ha ?_
    repeat trivial
    refine f_src S hc ?_
    repeat trivial
    refine ite_b (fun e => ?_) (fun e => ?_)
    · have e' : s = t := by simpa using e
      repeat trivial
      refine f_num S ha ?_
      repeat trivial
      refine f_num S hc ?_
      repeat trivial
      rw [if_pos e'] at q; exact q
    · have e' : s ≠ t := by simpa using e
      repeat trivial
      rw [if_neg e'] at q; exact q
  · refine s_isiO ib (S.own.off gb ng) ?_
    repeat trivial
    repeat trivial
theorem rd_value (S : SumC K C) {vs : List V} {H : Hp} {Q : VK} {E : XK} (h : spValue K B C vs H Q E) : t_Sum_value_in K C B T E { nx := fun _ H' => Q .non H', rt := Q } (start n_Sum_value_in vs) H := by
  obtain ⟨a, s, n, b, gb, rfl, ha, ib, h⟩ := h
  unfold t_Sum_value_in
  with_reducible refine s_seqJ ?_
  repeat trivial
  refine s_isiB ib (by decide) ?_
  repeat trivial
  rcases h with ⟨d, kvs, m, rfl, hd, hv, q⟩ | ⟨d, kvs, g, rfl, hd, ig, hi, h⟩ | ⟨ng, h⟩
  · have e1 : gb.isB "dict" = true := by
      cases ib with
      | dct _ => rfl
      | lst e => rw [hd] at e; cases e
      | tup e => rw [hd] at e; cases e
      | own e _ => rw [hd] at e; cases e
    rw [e1]
    refine ite_f ?_
    repeat trivial
    refine ⟨d, rfl, .inl ⟨kvs, .inl hd⟩, ?_⟩
    repeat trivial
    refine f_src S ha ?_
    refine ⟨_, DGet.k (k := .inr s) hd, ?_⟩
    rw [hv]
    repeat trivial
    refine ⟨_, _, rfl, .int m, ?_⟩
    repeat trivial
    refine ite_n (fun e => nomatch e) (fun _ => ?_)
    repeat trivial
    refine f_src S ha ?_
    refine ⟨d, .int m, rfl, hv ▸ DGet.k (k := .inr s) hd, ?_⟩
    repeat trivial
    refine f_num S ha ?_
    repeat trivial
  · have e1 : gb.isB "dict" = true := by
      cases ib with
      | dct _ => rfl
      | lst e => rw [hd] at e; cases e
      | tup e => rw [hd] at e; cases e
      | own e _ => rw [hd] at e; cases e
    rw [e1]
    refine ite_f ?_
    repeat trivial
    refine ⟨d, rfl, .inl ⟨kvs, .inl hd⟩, ?_⟩
    repeat trivial
    refine f_src S ha ?_
    refine ⟨_, DGet.k (k := .inr s) hd, ?_⟩
    repeat trivial
    refine ⟨_, _, rfl, ig, ?_⟩
    repeat trivial
    refine ite_n (fun _ => ?_) (fun e => absurd (hi.symm.trans e) Bool.false_ne_true)
    repeat trivial
  · have e1 : gb.isB "dict" = false := by cases ib <;> first | rfl | exact absurd rfl ng
    rw [e1]
    refine ite_t (α := Unit) ?_
    refine ite_t (α := Unit) ?_
    repeat trivial
theorem str_len {x : Str} : x.cps.toList.length = x.length := Array.length_toList
theorem name_short : ∀ s ∈ names, s.length ≤ 2 := by decide +kernel
theorem rd_str (S : SumC K C) {vs : List V} {H : Hp} {Q : VK} {E : XK} (h : spStr C vs H Q E) : t_Sum___str__ K C B T { nx := fun _ H' => Q .non H', rt := Q } (start n_Sum___str__ vs) H := by
  obtain ⟨a, s, n, rfl, ha, hn, q⟩ := h
  have ls : s.length ≤ 2 := name_short s (by simpa using ha.1)
  have hz : (200 : Nat) ≤ sizeLine := by decide
  unfold textOf at q
  unfold t_Sum___str__
  repeat trivial
  refine f_num S ha ?_
  repeat trivial
  refine ite_b (fun e => ?_) (fun e => ?_)
  · have e' : n = 0 := by simpa using e
    rw [if_pos e'] at q
    repeat trivial
    refine f_src S ha ?_
    refine s_kFS (by omega) ?_
    exact q
  have e0 : n ≠ 0 := by simpa using e
  rw [if_neg e0] at q
  repeat trivial
  refine f_num S ha ?_
  repeat trivial
  refine ite_b (fun e => ?_) (fun e => ?_)
  · have e1 : 0 < n := by simpa using e
    have lt : ("+" : Str).length = 1 := rfl
    have ld := dec_short (n := n) (by omega) (by omega)
    repeat trivial
    refine f_src S ha ?_
    refine s_kFS (by omega) ?_
    refine s_kJ (by rw [e_app]; omega) ?_
    repeat trivial
    refine s_kJ (by rw [e_app, len_app, lt]; omega) ?_
    repeat trivial
    refine f_num S ha ?_
    repeat trivial
    refine ⟨n, rfl, hn, ?_⟩
    refine s_kFS (by omega) ?_
    refine s_kJ (by rw [e_app, len_app, len_app, lt]; omega) ?_
    repeat trivial
    unfold sgn at q
    rw [if_pos e1, if_neg (by omega)] at q
    rw [e_app]; exact q
  · have e1 : ¬ 0 < n := by simpa using e
    have e2 : n < 0 := by omega
    have ld := dec_short (n := -n) (by omega) (by omega)
    have lt : ("-" : Str).length = 1 := rfl
    have zd := dec_neg e2
    repeat trivial
    refine f_src S ha ?_
    refine s_kFS (by omega) ?_
    refine s_kJ (by rw [e_app]; omega) ?_
    repeat trivial
    refine f_num S ha ?_
    repeat trivial
    refine ⟨n, rfl, hn, ?_⟩
    refine s_kFS (by rw [zd, len_app, lt]; omega) ?_
    refine s_kJ (by rw [e_app, len_app, zd, len_app, lt]; omega) ?_
    repeat trivial
    unfold sgn at q
    rw [if_neg e1, if_pos e2] at q
    have z : Str.empty ++ s ++ dec n = s ++ ("-" : Str) ++ dec (-n) := by rw [e_app, zd, Str.append_assoc]
    rw [z]; exact q
theorem atI0 {α : Type} {x : α} {xs : List α} : atI (x :: xs) 0 = some x := by
  unfold atI
  rw [ixN_in (Int.le_refl 0) (by rw [List.length_cons]; omega)]
  rfl
theorem rd_read (S : SumC K C) {vs : List V} {H : Hp} {Q : VK} {E : XK} (h : spRead K T C vs H Q E) : t_Sum_read K C B T E { nx := fun _ H' => Q .non H', rt := Q } (start n_Sum_read vs) H := by
  obtain ⟨x, g, rfl, ix, h⟩ := h
  have hz : (1000010 : Nat) ≤ sizeLine := by decide
  unfold t_Sum_read
  repeat trivial
  refine s_isiB ix (by decide) ?_
  repeat trivial
  rcases h with ⟨w, rfl, hw, h0, h1, h2⟩ | ⟨ng, h⟩
  · have eg : g.isB "str" = true := by cases ix; rfl
    rw [eg]
    refine ite_n (fun e => nomatch e) (fun _ => ?_)
    repeat trivial
    refine ⟨⟨w, rfl⟩, ?_⟩
    repeat trivial
    refine s_split (x := w) (by rfl) (by omega) fun p hp => ?_
    have x1 := ext_new (o := .lst ((Txt.split w " ").map V.str)) hp
    obtain ⟨u, r, hs, hu, _⟩ := split_cons w " "
    have hd : head1 w = u := by unfold head1; rw [hs]; rfl
    rw [hd] at h0 h1 h2
    rw [hs] at h1 h2 x1 ⊢
    repeat trivial
    refine s_ixL (SqL.of upd_same) atI0 ?_
    repeat trivial
    refine ⟨u, rfl, by omega, fun hno H' e' => ?_, fun s n hW a H' na e' hS => ?_⟩
    · repeat trivial
      refine ite_t (α := Unit) ?_
      repeat trivial
      exact ⟨rfl, h0 hno H' fun b o z => e' _ _ (x1 _ _ z)⟩
    · have xe : Ext H H' := fun b o z => e' _ _ (x1 _ _ z)
      repeat trivial
      refine ite_f ?_
      repeat trivial
      refine s_lenL (SqL.of (e' _ _ upd_same)) ?_
      repeat trivial
      refine ite_b (fun e => ?_) (fun e => ?_)
      · repeat trivial
        exact ⟨rfl, h1 s n hW (by have z := of_decide_eq_true e; rw [List.length_map] at z; omega) H' xe⟩
      · repeat trivial
        exact h2 s n hW (by have z := of_decide_eq_false e; rw [List.length_map] at z; omega) a H' ((Up.of (M := []) x1).free na) xe hS
  · have eg : g.isB "str" = false := by cases ix <;> first | rfl | exact absurd rfl ng
    rw [eg]
    refine ite_n (fun _ => ?_) (fun e => nomatch e)
    repeat trivial
theorem size_eq (w : Str) : decide (V.str (cutS w none (some 1)) = V.str "z") = decide (w.cps.toList.take 1 = [122]) := by
  have e : (cutS w none (some 1)).cps.toList = w.cps.toList.take 1 := cut_pre w 1
  have z : ("z" : Str).cps.toList = [122] := by decide +kernel
  by_cases h : w.cps.toList.take 1 = [122]
  · rw [decide_eq_true h]
    exact decide_eq_true (congrArg V.str (str_ext (by rw [e, z, h])))
  · rw [decide_eq_false h]
    refine decide_eq_false fun q => h ?_
    injection q with q
    rw [← e, q, z]
theorem contains_of {s : Str} {l : List Str} : inV (.str s) (l.map V.str) = l.contains s := by
  unfold inV
  rw [List.any_map, Bool.eq_iff_iff, List.any_eq_true, List.contains_iff_mem]
  constructor
  · rintro ⟨y, hy, e⟩
    have e' : eqV (.str y) (.str s) = true := e
    have : y = s := by simpa [eqV] using e'
    exact this ▸ hy
  · intro hs
    exact ⟨s, hs, by simp [eqV]⟩
theorem digits_in (c : Nat) : decide (c ∈ ("0123456789" : Str).cps.toList) = decide (48 ≤ c ∧ c ≤ 57) := by
  have e : ("0123456789" : Str).cps.toList = [48, 49, 50, 51, 52, 53, 54, 55, 56, 57] := by decide +kernel
  rw [e]
  refine decide_eq_decide.mpr ?_
  simp only [List.mem_cons, List.not_mem_nil, or_false]
  omega
theorem rd_sum_in (S : SumC K C) {vs : List V} {H : Hp} {Q : VK} {E : XK} (h : spSumIn K C vs H Q E) : t_sum_in K C B T { nx := fun _ H' => Q .non H', rt := Q } (start n_sum_in vs) H := by
  obtain ⟨w, rfl, hw, hno, hyes⟩ := h
  have hz : (1000010 : Nat) ≤ sizeLine := by decide
  obtain ⟨mc, t, u, cr, cv, sq, _⟩ := S.nm
  have sqt : ∀ H, SqT K H t (names.map V.str) := fun H => sq.ext fun _ _ z => nomatch z
  obtain ⟨k, hk⟩ : ∃ k, size w.cps.toList = k := ⟨_, rfl⟩
  have k12 : k = 1 ∨ k = 2 := by rw [← hk]; unfold size; split <;> simp
  unfold t_sum_in
  repeat trivial
  with_reducible refine s_ifW (fun v H' => H = H' ∧ v = .int (k : Nat)) (fun v H' hv => ?_) (fun tail => ?_)
  · obtain ⟨rfl, rfl⟩ := hv
    repeat trivial
    refine s_slS (by omega) ?_
    repeat trivial
    refine s_slS (by omega) ?_
    repeat trivial
    refine s_slS (by omega) ?_
    repeat trivial
    have e1 : (cutS w none (some (k : Int))).cps.toList = w.cps.toList.take k := cut_pre w k
    have e2 : (cutS w (some (k : Int)) (some ((k : Int) + 1))).cps.toList = (w.cps.toList.drop k).take 1 := cut_mid w k
    have e3 : (cutS w (some ((k : Int) + 1)) none).cps.toList = w.cps.toList.drop (k + 1) := cut_suf w (k + 1)
    revert e1 e2 e3
    generalize cutS w none (some (k : Int)) = src
    generalize cutS w (some (k : Int)) (some ((k : Int) + 1)) = sg
    generalize cutS w (some ((k : Int) + 1)) none = fg
    intro e1 e2 e3
    refine ⟨_, _, _, rfl, ?_⟩
    repeat trivial
    refine ⟨C, mc, _, u, rfl, cr, cv, ?_⟩
    refine s_notInT (sqt _) rfl (flat_strs _) ?_
    repeat trivial
    rw [contains_of]
    refine ite_n (fun e => ?_) (fun hs => ?_)
    · repeat trivial
      refine hno (fun s n hW => ?_) _ (fun _ _ z => z)
      have : s = src := str_ext (by rw [hW.1, hk, e1])
      rw [← this, hW.2.1] at e; cases e
    repeat trivial
    refine ite_b (fun e => ?_) (fun e => ?_)
    · have es : sg = "" := by simpa using e
      have e0 : w.cps.toList.drop k = [] := by
        rw [es] at e2
        cases q : w.cps.toList.drop k with
        | nil => rfl
        | cons a l =>
          have e00 : ("" : Str).cps.toList = [] := by decide +kernel
          rw [q, e00] at e2; cases e2
      repeat trivial
      exact s_new (n := 0) hs (hyes src 0 ⟨by rw [e1, hk], hs, .inl ⟨by rw [hk, e0], rfl⟩⟩)
    have es : sg ≠ "" := by simpa using e
    obtain ⟨c, ds, hd⟩ : ∃ c ds, w.cps.toList.drop k = c :: ds := by
      cases q : w.cps.toList.drop k with
      | nil => rw [q] at e2; exact absurd (str_ext (by rw [e2]; rfl)) es
      | cons a l => exact ⟨a, l, rfl⟩
    have esg : sg.cps.toList = [c] := by rw [e2, hd]; rfl
    have efg : fg.cps.toList = ds := by rw [e3, ← List.drop_drop, hd]; rfl
    have lw : w.cps.toList.length = w.length := Array.length_toList
    have lfg : fg.cps.toList.length = fg.length := Array.length_toList
    have lf : fg.length = ds.length := by rw [← lfg, efg]
    have ld : ds.length ≤ w.length := by
      have := congrArg List.length hd
      rw [List.length_drop, List.length_cons] at this
      omega
    have wW : ∀ s n, W w s n → s = src ∧ Good ds ∧ ((c = 43 ∧ n = (digitsVal ds : Nat)) ∨ (c = 45 ∧ n = -((digitsVal ds : Nat) : Int))) := fun s n hW => by
      obtain ⟨h1, _, h3⟩ := hW
      rw [hk] at h1 h3
      refine ⟨str_ext (by rw [h1, e1]), ?_⟩
      rcases h3 with ⟨h3, _⟩ | ⟨c', ds', h3, g, hn⟩
      · rw [hd] at h3; cases h3
      · rw [hd] at h3; cases h3; exact ⟨g, hn⟩
    with_reducible refine s_next ?_
    with_reducible refine s_seqW (α := Unit) (fun _ => [some (.str w), some (.int (k : Nat)), some (.str src), some (.str sg), some (.str fg), none]) (fun _ H' => Ext H H' ∧ (c = 43 ∨ c = 45) ∧ ds ≠ [] ∧ ds.length ≤ 60 ∧ ds.head? ≠ some 48) (fun _ H' hw => ?_) (fun tail => ?_)
    · obtain ⟨ex, hc, d1, d2, d3⟩ := hw
      repeat trivial
      refine s_lcS ?_
      repeat trivial
      refine lc_txt (fun c => .bl (!decide (c ∈ ("0123456789" : Str).cps.toList))) (by omega) (fun c hc H' Q' q => ?_) (fun D H2 hD x2 h2 => ?_)
      · repeat trivial
        refine s_notInS ?_
        exact q
      have x3 : Ext H H2 := fun b o z => x2 _ _ (ex _ _ z)
      repeat trivial
      refine s_any (bs := ds.map fun c => !decide (c ∈ ("0123456789" : Str).cps.toList)) (SqL.of (by rw [h2, efg, List.map_map]; rfl)) ?_
      repeat trivial
      refine ite_b (fun e => ?_) (fun e => ?_)
      · repeat trivial
        refine hno (fun s n hW => ?_) _ x3
        obtain ⟨_, g, _⟩ := wW s n hW
        rw [List.any_map, List.any_eq_true] at e
        obtain ⟨d, hd', e⟩ := e
        have := g.1 d hd'
        have e' : (!decide (d ∈ ("0123456789" : Str).cps.toList)) = true := e
        rw [digits_in, decide_eq_true this] at e'; cases e'
      · have g : Good ds := ⟨fun d hd' => by
          rw [List.any_map, List.any_eq_false] at e
          have e' : ¬ (!decide (d ∈ ("0123456789" : Str).cps.toList)) = true := e d hd'
          rw [digits_in] at e'
          by_cases z : 48 ≤ d ∧ d ≤ 57
          · exact z
          · rw [decide_eq_false z] at e'; exact absurd rfl e', d1, d2, d3⟩
        have lsg : sg.length = 1 := by rw [← str_len, esg]; rfl
        have exy : (sg ++ fg).cps.toList = c :: ds := by rw [cps_app, esg, efg]; rfl
        obtain ⟨m, hm, hl, hv⟩ := intText_signed exy g hc
        repeat trivial
        refine s_addS (by omega) ?_
        repeat trivial
        refine s_intS hm hl ?_
        repeat trivial
        refine s_new hs ((hyes src m ⟨by rw [e1, hk], hs, .inr ⟨c, ds, by rw [hk, hd], g, hv⟩⟩).ext x3)
    · repeat trivial
      refine ⟨sl rfl, fun p hp => ?_⟩
      have xp := ext_new (o := .tup [.str "+", .str "-"]) hp
      refine s_notInT (xs := [("+" : Str), "-"].map V.str) (SqT.of upd_same) rfl rfl ?_
      repeat trivial
      rw [contains_of]
      have epm : [("+" : Str), "-"].contains sg = decide (c = 43 ∨ c = 45) := by
        rw [Bool.eq_iff_iff, List.contains_iff_mem, decide_eq_true_iff]
        constructor
        · intro hm
          rcases List.mem_cons.mp hm with e | hm
          · rw [e] at esg
            have : ("+" : Str).cps.toList = [43] := by decide +kernel
            rw [this] at esg; cases esg; exact .inl rfl
          · rcases List.mem_cons.mp hm with e | hm
            · rw [e] at esg
              have : ("-" : Str).cps.toList = [45] := by decide +kernel
              rw [this] at esg; cases esg; exact .inr rfl
            · cases hm
        · rintro (rfl | rfl)
          · rw [str_ext (a := sg) (b := "+") (by rw [esg]; decide +kernel)]; exact List.mem_cons_self
          · rw [str_ext (a := sg) (b := "-") (by rw [esg]; decide +kernel)]; exact List.mem_cons_of_mem _ List.mem_cons_self
      rw [epm]
      refine ite_n (fun e => ?_) (fun e => ?_)
      · refine ite_t (α := Unit) ?_
        repeat trivial
        refine hno (fun s n hW => ?_) _ xp
        obtain ⟨_, _, h⟩ := wW s n hW
        have e' := of_decide_eq_false e
        rcases h with ⟨z, _⟩ | ⟨z, _⟩
        · exact e' (.inl z)
        · exact e' (.inr z)
      have hc := of_decide_eq_true e
      repeat trivial
      refine ite_b (fun e => ?_) (fun e => ?_)
      · refine ite_t (α := Unit) ?_
        have ef : fg = "" := by simpa using e
        repeat trivial
        refine hno (fun s n hW => ?_) _ xp
        refine (wW s n hW).2.1.2.1 ?_
        rw [← efg, ef]; decide +kernel
      have ef : fg ≠ "" := by simpa using e
      repeat trivial
      refine s_lenS (by omega) ?_
      repeat trivial
      refine ite_b (fun e => ?_) (fun e => ?_)
      · refine ite_t (α := Unit) ?_
        repeat trivial
        refine hno (fun s n hW => ?_) _ xp
        have := (wW s n hW).2.1.2.2.1
        have e' := of_decide_eq_true e
        rw [efg] at lfg
        omega
      have e6 := of_decide_eq_false e
      obtain ⟨d0, r, hr⟩ : ∃ d r, ds = d :: r := by
        cases q : ds with
        | nil => rw [q] at efg; exact absurd (str_ext (by rw [efg]; decide +kernel)) ef
        | cons d r => exact ⟨d, r, rfl⟩
      repeat trivial
      refine s_ixS (c := d0) (by omega) (by rw [efg, hr]; exact atI0) ?_
      repeat trivial
      refine ite_b (fun e => ?_) (fun e => ?_)
      · repeat trivial
        refine hno (fun s n hW => ?_) _ xp
        refine (wW s n hW).2.1.2.2.2 ?_
        have e' : (⟨#[d0]⟩ : Str) = "0" := by simpa using e
        have e2 : d0 = 48 := by
          have := congrArg (fun s : Str => s.cps.toList) e'
          have z : ("0" : Str).cps.toList = [48] := by decide +kernel
          simp only [z] at this
          simpa using this
        rw [hr, e2]; rfl
      · refine tail () _ ⟨xp, hc, by rw [hr]; simp, by rw [efg] at lfg; omega, ?_⟩
        rw [hr]
        intro z
        have e' : (⟨#[d0]⟩ : Str) ≠ "0" := by simpa using e
        refine e' (str_ext ?_)
        have z0 : ("0" : Str).cps.toList = [48] := by decide +kernel
        rw [z0]
        injection z with z
        rw [z]
  · repeat trivial
    refine s_slS (by omega) ?_
    repeat trivial
    rw [size_eq]
    refine ite_b (fun e => ?_) (fun e => ?_)
    · refine tail _ _ ⟨rfl, ?_⟩
      rw [← hk]; unfold size; rw [if_pos (of_decide_eq_true e)]; rfl
    · refine tail _ _ ⟨rfl, ?_⟩
      rw [← hk]; unfold size; rw [if_neg (of_decide_eq_false e)]; rfl
end
theorem ok_written {P : Program} {w : World} {K : PySem.W.Frag} {mg : Str → Option Value} {base : Heap} {f : Addr} {fd : FuncData} (b_abs : mg "abs" = none)
    (F : FunD K "written" "written" (defArgs s_written) (defBody s_written) (defScope s_written) [] [] f fd) : FnOk P w K mg base (L2.CX P w) 2 f fd ["number"] spWritten :=
  F.ok sc_written (fun vs H Q E h => by obtain ⟨_, rfl, _⟩ := h; rfl) fun cdv A outer s H vs Q E hr h => ⟨t_written K, (tm_written b_abs hr).nox, rd_written h⟩

theorem ok_Sum___init__ {P : Program} {w : World} {K : PySem.W.Frag} {mg : Str → Option Value} {base : Heap} {f : Addr} {fd : FuncData} {C B T : Addr} (S : SumC K C) (b_isinstance : mg "isinstance" = none) (b_str : mg "str" = none) (g_Sum : ∃ u, mg "Sum" = some u ∧ RelV (.ref C) u) (x_BadSum : TkX.XCls P w K mg "BadSum" B ["part"]) (c_is_integer : Cl P w K mg base 2 "is_integer" (spIsInt K) [])
    (F : FunD K "__init__" "Sum.__init__" (defArgs s_Sum___init__) (defBody s_Sum___init__) (defScope s_Sum___init__) [.int 0] [] f fd) : FnOk P w K mg base (L2.CX P w) 3 f fd ["self", "source", "number"] (spInit K B C) :=
  F.ok sc_Sum___init__ (fun vs H Q E h => by obtain ⟨_, _, _, _, _, _, rfl, _⟩ := h; rfl) fun cdv A outer s H vs Q E hr h => ⟨t_Sum___init__ K C B T E, (tm_Sum___init__ b_isinstance b_str g_Sum x_BadSum c_is_integer hr), rd_init S h⟩

theorem ok_Sum___add__ {P : Program} {w : World} {K : PySem.W.Frag} {mg : Str → Option Value} {base : Heap} {f : Addr} {fd : FuncData} {C B T : Addr} (S : SumC K C) (c_is_integer : Cl P w K mg base 2 "is_integer" (spIsInt K) []) (x_BadSum : TkX.XCls P w K mg "BadSum" B ["part"]) (m_Sum2 : Mkr P w K mg base 3 "Sum" C (spInit K B C) [])
    (F : FunD K "__add__" "Sum.__add__" (defArgs s_Sum___add__) (defBody s_Sum___add__) (defScope s_Sum___add__) [] [] f fd) : FnOk P w K mg base (L2.CX P w) 5 f fd ["self", "other"] (spAdd K B C fun i j => i + j) :=
  F.ok sc_Sum___add__ (fun vs H Q E h => by obtain ⟨_, _, _, _, _, rfl, _⟩ := h; rfl) fun cdv A outer s H vs Q E hr h => ⟨t_Sum___add__ K C B T E, (tm_Sum___add__ c_is_integer x_BadSum m_Sum2 hr), rd_add S h⟩

theorem ok_Sum___sub__ {P : Program} {w : World} {K : PySem.W.Frag} {mg : Str → Option Value} {base : Heap} {f : Addr} {fd : FuncData} {C B T : Addr} (S : SumC K C) (c_is_integer : Cl P w K mg base 2 "is_integer" (spIsInt K) []) (x_BadSum : TkX.XCls P w K mg "BadSum" B ["part"]) (m_Sum2 : Mkr P w K mg base 3 "Sum" C (spInit K B C) [])
    (F : FunD K "__sub__" "Sum.__sub__" (defArgs s_Sum___sub__) (defBody s_Sum___sub__) (defScope s_Sum___sub__) [] [] f fd) : FnOk P w K mg base (L2.CX P w) 5 f fd ["self", "other"] (spAdd K B C fun i j => i - j) :=
  F.ok sc_Sum___sub__ (fun vs H Q E h => by obtain ⟨_, _, _, _, _, rfl, _⟩ := h; rfl) fun cdv A outer s H vs Q E hr h => ⟨t_Sum___sub__ K C B T E, (tm_Sum___sub__ c_is_integer x_BadSum m_Sum2 hr), rd_sub S h⟩

theorem ok_Sum___eq__ {P : Program} {w : World} {K : PySem.W.Frag} {mg : Str → Option Value} {base : Heap} {f : Addr} {fd : FuncData} {C B T : Addr} (S : SumC K C) (b_isinstance : mg "isinstance" = none) (g_Sum : ∃ u, mg "Sum" = some u ∧ RelV (.ref C) u)
    (F : FunD K "__eq__" "Sum.__eq__" (defArgs s_Sum___eq__) (defBody s_Sum___eq__) (defScope s_Sum___eq__) [] [] f fd) : FnOk P w K mg base (L2.CX P w) 2 f fd ["self", "other"] (spCmp K C eqP) :=
  F.ok sc_Sum___eq__ (fun vs H Q E h => by obtain ⟨_, _, _, _, _, _, rfl, _⟩ := h; rfl) fun cdv A outer s H vs Q E hr h => ⟨t_Sum___eq__ K C B T, (tm_Sum___eq__ b_isinstance g_Sum hr).nox, rd_eq S h⟩

theorem ok_Sum___lt__ {P : Program} {w : World} {K : PySem.W.Frag} {mg : Str → Option Value} {base : Heap} {f : Addr} {fd : FuncData} {C B T : Addr} (S : SumC K C) (b_isinstance : mg "isinstance" = none) (g_Sum : ∃ u, mg "Sum" = some u ∧ RelV (.ref C) u)
    (F : FunD K "__lt__" "Sum.__lt__" (defArgs s_Sum___lt__) (defBody s_Sum___lt__) (defScope s_Sum___lt__) [] [] f fd) : FnOk P w K mg base (L2.CX P w) 2 f fd ["self", "other"] (spCmp K C ltP) :=
  F.ok sc_Sum___lt__ (fun vs H Q E h => by obtain ⟨_, _, _, _, _, _, rfl, _⟩ := h; rfl) fun cdv A outer s H vs Q E hr h => ⟨t_Sum___lt__ K C B T, (tm_Sum___lt__ b_isinstance g_Sum hr).nox, rd_lt S h⟩

theorem ok_Sum___le__ {P : Program} {w : World} {K : PySem.W.Frag} {mg : Str → Option Value} {base : Heap} {f : Addr} {fd : FuncData} {C B T : Addr} (S : SumC K C) (b_isinstance : mg "isinstance" = none) (g_Sum : ∃ u, mg "Sum" = some u ∧ RelV (.ref C) u)
    (F : FunD K "__le__" "Sum.__le__" (defArgs s_Sum___le__) (defBody s_Sum___le__) (defScope s_Sum___le__) [] [] f fd) : FnOk P w K mg base (L2.CX P w) 2 f fd ["self", "other"] (spCmp K C leP) :=
  F.ok sc_Sum___le__ (fun vs H Q E h => by obtain ⟨_, _, _, _, _, _, rfl, _⟩ := h; rfl) fun cdv A outer s H vs Q E hr h => ⟨t_Sum___le__ K C B T, (tm_Sum___le__ b_isinstance g_Sum hr).nox, rd_le S h⟩

theorem ok_Sum___gt__ {P : Program} {w : World} {K : PySem.W.Frag} {mg : Str → Option Value} {base : Heap} {f : Addr} {fd : FuncData} {C B T : Addr} (S : SumC K C) (b_isinstance : mg "isinstance" = none) (g_Sum : ∃ u, mg "Sum" = some u ∧ RelV (.ref C) u)
    (F : FunD K "__gt__" "Sum.__gt__" (defArgs s_Sum___gt__) (defBody s_Sum___gt__) (defScope s_Sum___gt__) [] [] f fd) : FnOk P w K mg base (L2.CX P w) 2 f fd ["self", "other"] (spCmp K C gtP) :=
  F.ok sc_Sum___gt__ (fun vs H Q E h => by obtain ⟨_, _, _, _, _, _, rfl, _⟩ := h; rfl) fun cdv A outer s H vs Q E hr h => ⟨t_Sum___gt__ K C B T, (tm_Sum___gt__ b_isinstance g_Sum hr).nox, rd_gt S h⟩

theorem ok_Sum___ge__ {P : Program} {w : World} {K : PySem.W.Frag} {mg : Str → Option Value} {base : Heap} {f : Addr} {fd : FuncData} {C B T : Addr} (S : SumC K C) (b_isinstance : mg "isinstance" = none) (g_Sum : ∃ u, mg "Sum" = some u ∧ RelV (.ref C) u)
    (F : FunD K "__ge__" "Sum.__ge__" (defArgs s_Sum___ge__) (defBody s_Sum___ge__) (defScope s_Sum___ge__) [] [] f fd) : FnOk P w K mg base (L2.CX P w) 2 f fd ["self", "other"] (spCmp K C geP) :=
  F.ok sc_Sum___ge__ (fun vs H Q E h => by obtain ⟨_, _, _, _, _, _, rfl, _⟩ := h; rfl) fun cdv A outer s H vs Q E hr h => ⟨t_Sum___ge__ K C B T, (tm_Sum___ge__ b_isinstance g_Sum hr).nox, rd_ge S h⟩

theorem ok_Sum_apart {P : Program} {w : World} {K : PySem.W.Frag} {mg : Str → Option Value} {base : Heap} {f : Addr} {fd : FuncData} {C B T : Addr} (S : SumC K C) (b_isinstance : mg "isinstance" = none) (g_Sum : ∃ u, mg "Sum" = some u ∧ RelV (.ref C) u) (x_BadSum : TkX.XCls P w K mg "BadSum" B ["part"])
    (F : FunD K "apart" "Sum.apart" (defArgs s_Sum_apart) (defBody s_Sum_apart) (defScope s_Sum_apart) [] [] f fd) : FnOk P w K mg base (L2.CX P w) 2 f fd ["self", "other"] (spApart K B C) :=
  F.ok sc_Sum_apart (fun vs H Q E h => by obtain ⟨_, _, _, _, _, rfl, _⟩ := h; rfl) fun cdv A outer s H vs Q E hr h => ⟨t_Sum_apart K C B T E, (tm_Sum_apart b_isinstance g_Sum x_BadSum hr), rd_apart S h⟩

theorem ok_Sum_value_in {P : Program} {w : World} {K : PySem.W.Frag} {mg : Str → Option Value} {base : Heap} {f : Addr} {fd : FuncData} {C B T : Addr} (S : SumC K C) (b_isinstance : mg "isinstance" = none) (b_dict : mg "dict" = none) (c_is_integer : Cl P w K mg base 2 "is_integer" (spIsInt K) []) (x_BadSum : TkX.XCls P w K mg "BadSum" B ["part"])
    (F : FunD K "value_in" "Sum.value_in" (defArgs s_Sum_value_in) (defBody s_Sum_value_in) (defScope s_Sum_value_in) [] [] f fd) : FnOk P w K mg base (L2.CX P w) 3 f fd ["self", "numbers"] (spValue K B C) :=
  F.ok sc_Sum_value_in (fun vs H Q E h => by obtain ⟨_, _, _, _, _, rfl, _⟩ := h; rfl) fun cdv A outer s H vs Q E hr h => ⟨t_Sum_value_in K C B T E, (tm_Sum_value_in b_isinstance b_dict c_is_integer x_BadSum hr), rd_value S h⟩

theorem ok_Sum___str__ {P : Program} {w : World} {K : PySem.W.Frag} {mg : Str → Option Value} {base : Heap} {f : Addr} {fd : FuncData} {C B T : Addr} (S : SumC K C) (c_written : Cl P w K mg base 2 "written" spWritten [])
    (F : FunD K "__str__" "Sum.__str__" (defArgs s_Sum___str__) (defBody s_Sum___str__) (defScope s_Sum___str__) [] [] f fd) : FnOk P w K mg base (L2.CX P w) 3 f fd ["self"] (spStr C) :=
  F.ok sc_Sum___str__ (fun vs H Q E h => by obtain ⟨_, _, _, rfl, _⟩ := h; rfl) fun cdv A outer s H vs Q E hr h => ⟨t_Sum___str__ K C B T, (tm_Sum___str__ c_written hr).nox, rd_str S h⟩

theorem ok_Sum_read {P : Program} {w : World} {K : PySem.W.Frag} {mg : Str → Option Value} {base : Heap} {f : Addr} {fd : FuncData} {C B T : Addr} (S : SumC K C) (b_isinstance : mg "isinstance" = none) (b_str : mg "str" = none) (x_BadText : TkX.XCls P w K mg "BadText" T ["line", "word"]) (c_sum_in : Cl P w K mg base 5 "sum_in" (spSumIn K C) []) (b_len : mg "len" = none)
    (F : FunD K "read" "Sum.read" (defArgs s_Sum_read) (defBody s_Sum_read) (defScope s_Sum_read) [] [] f fd) : FnOk P w K mg base (L2.CX P w) 6 f fd ["text"] (spRead K T C) :=
  F.ok sc_Sum_read (fun vs H Q E h => by obtain ⟨_, _, rfl, _⟩ := h; rfl) fun cdv A outer s H vs Q E hr h => ⟨t_Sum_read K C B T E, (tm_Sum_read b_isinstance b_str x_BadText c_sum_in b_len hr), rd_read S h⟩

theorem ok_sum_in {P : Program} {w : World} {K : PySem.W.Frag} {mg : Str → Option Value} {base : Heap} {f : Addr} {fd : FuncData} {C B T : Addr} (S : SumC K C) (g_Sum : ∃ u, mg "Sum" = some u ∧ RelV (.ref C) u) (m_Sum1 : Mkr P w K mg base 3 "Sum" C (spInit K B C) [.int 0]) (b_len : mg "len" = none) (g_LONGEST : ∃ u, mg "LONGEST" = some u ∧ RelV (.int 60) u) (b_any : mg "any" = none) (g_FIGURES : ∃ u, mg "FIGURES" = some u ∧ RelV (.str "0123456789") u) (b_int : mg "int" = none) (m_Sum2 : Mkr P w K mg base 3 "Sum" C (spInit K B C) [])
    (F : FunD K "sum_in" "sum_in" (defArgs s_sum_in) (defBody s_sum_in) (defScope s_sum_in) [] [] f fd) : FnOk P w K mg base (L2.CX P w) 5 f fd ["word"] (spSumIn K C) :=
  F.ok sc_sum_in (fun vs H Q E h => by obtain ⟨_, rfl, _⟩ := h; rfl) fun cdv A outer s H vs Q E hr h => ⟨t_sum_in K C B T, (tm_sum_in g_Sum m_Sum1 b_len g_LONGEST b_any g_FIGURES b_int m_Sum2 hr).nox, rd_sum_in S h⟩

end K8
end
section
set_option linter.all false
set_option maxRecDepth 100000
set_option maxHeartbeats 4000000
open PySem PySem.Spec PyProof.Rows L2 Tk PySem.NumText
namespace K8
def kXF (K : PySem.W.Frag) (f : Str) (Q : VK) : VK := fun x H1 => ∃ (a C d : Addr) (fs : List (Str × V)) (v : V), x = .ref a ∧ H1 a = some (XO (.ref C) (some d) a) ∧ H1 d = some (.xd fs) ∧ XRd K C ∧ PySem.W.findIn K (.ref C) f = some none ∧ fs.lookup f = some v ∧ Q v H1
theorem s_xfld {K : PySem.W.Frag} {f : Str} {te : TE} {σ : L2.St} {H : Hp} {Q : VK} (q : te σ H (kXF K f Q)) : tXFld K f te σ H Q := q
local macro_rules | `(tactic| trivial) => `(tactic| first
  | with_reducible refine s_seq ?_
  | with_reducible refine s_asg ?_
  | with_reducible refine s_op ?_
  | with_reducible refine s_c ?_
  | with_reducible refine s_name ?_
  | with_reducible refine s_cb ?_
  | with_reducible refine s_cons ?_
  | with_reducible refine s_nil ?_
  | with_reducible refine s_call ?_
  | with_reducible refine s_ret ?_
  | with_reducible refine s_ifS ?_
  | with_reducible refine s_test ?_
  | with_reducible refine s_B ?_
  | with_reducible refine s_kB ?_
  | with_reducible refine s_kI ?_
  | with_reducible refine s_addI ?_
  | with_reducible refine s_subI ?_
  | with_reducible refine s_ltI ?_
  | with_reducible refine s_leI ?_
  | with_reducible refine s_gtI ?_
  | with_reducible refine s_geI ?_
  | with_reducible refine s_int1 ?_
  | with_reducible refine s_intB ?_
  | with_reducible refine s_abs ?_
  | with_reducible refine s_eq rfl ?_
  | with_reducible refine s_ne rfl ?_
  | with_reducible refine s_isN ?_
  | with_reducible refine s_notN ?_
  | with_reducible refine s_un ?_
  | with_reducible refine s_unI ?_
  | with_reducible refine s_and ?_
  | with_reducible refine s_or ?_
  | with_reducible refine s_not ?_
  | with_reducible refine s_andV ?_
  | with_reducible refine s_orV ?_
  | with_reducible refine s_notV ?_
  | with_reducible refine s_if ?_
  | with_reducible refine s_tup ?_
  | with_reducible refine s_lst ?_
  | with_reducible refine s_fldT ?_
  | with_reducible refine s_drop ?_
  | with_reducible refine s_sl ?_
  | with_reducible refine s_none ?_
  | with_reducible refine s_some ?_
  | with_reducible refine s_sub ?_
  | with_reducible refine s_cval ?_
  | with_reducible refine s_bm ?_
  | with_reducible refine s_m1 ?_
  | with_reducible refine s_par ?_
  | with_reducible refine s_par3 ?_
  | with_reducible refine s_raise ?_
  | with_reducible refine s_sfld ?_
  | with_reducible refine s_make ?_
  | with_reducible refine s_dget ?_
  | with_reducible refine s_dget1 ?_
  | with_reducible refine s_js ?_
  | with_reducible refine s_jn ?_
  | with_reducible refine s_fmt ?_
  | with_reducible refine s_join _ ?_
  | with_reducible refine s_xfld ?_
  | with_reducible refine s_next ?_
  | ((with_reducible refine s_var (v := ?_) ?_ ?_); rotate_left; focus rfl))
/-- what the law's ear makes of an exception -/
def heardE (B T : Addr) (Q : VK) : XK := fun cls d H' => (cls = .ref B ∧ ∃ dd v, d = some dd ∧ H' dd = some (.xd [("part", v)]) ∧ ∀ p H2, H' p = none → Ext H' H2 → H2 p = some (.tup [.str "sum", v]) → Q (.ref p) H2) ∨
  (cls = .ref T ∧ ∃ dd v w, d = some dd ∧ H' dd = some (.xd [("line", v), ("word", w)]) ∧ ∀ p H2, H' p = none → Ext H' H2 → H2 p = some (.tup [v, w]) → Q (.ref p) H2)
/-- what it makes of the lambda -/
def TTheard (B T : Addr) : (XK → Hp → VK → Prop) → Hp → VK → Prop := fun tl H Q =>
  tl (heardE B T Q) H fun v H' => [v].length ≤ sizeLine ∧ ∀ p, H' p = none → Q (.ref p) (upd H' p (.lst [v]))
abbrev s_heard : Stmt := top 17
abbrev n_heard : List Str := ["_law_ask", "_law_caught", "error"]
theorem sc_heard : FnScope n_heard ["_law_ask"] (defScope s_heard) := ⟨rfl, rfl, rfl, by decide +kernel, rfl, by decide +kernel, by decide +kernel⟩
/-- the exception that was kept, and its fields -/
def Kept (B T : Addr) (a : Addr) (cls : Value) (d : Option Addr) (H : Hp) : Prop := H a = some (XO cls d a) ∧
  ((cls = .ref B ∧ ∃ dd v, d = some dd ∧ H dd = some (.xd [("part", v)])) ∨ (cls = .ref T ∧ ∃ dd v w, d = some dd ∧ H dd = some (.xd [("line", v), ("word", w)])))
theorem takes_len {X : Cx} {W : WX} (t : Takes X W) : Takes X (fun c d σ H => σ.length = X.N.length → W c d σ H) := fun u s' ⟨a, B, sI, pins, σ, H, cls, d, e, I, nb, up, sky, na, os, ag, w⟩ =>
  t u s' ⟨a, B, sI, pins, σ, H, cls, d, e, I, nb, up, sky, na, os, ag, w I.len⟩
theorem heard_gives {X : Cx} {g : Addr} {cdg : Value} {q : Str} {B T TE : Addr} (xB : TkX.XCls X.prog X.w X.K X.mg "BadSum" B ["part"]) (xT : TkX.XCls X.prog X.w X.K X.mg "BadText" T ["line", "word"])
    (mT : X.mg "ToolError" = some (.ref TE)) (mi : X.mg "isinstance" = none) (eB : PySem.W.exmOne X.K (.ref B) (.ref TE) = some true) (eT : PySem.W.exmOne X.K (.ref T) (.ref TE) = some true)
    (iBB : PySem.W.kitOne X.K (.ref B) (.ref B) = some true) (iTB : PySem.W.kitOne X.K (.ref T) (.ref B) = some false) (iTT : PySem.W.kitOne X.K (.ref T) (.ref T) = some true) :
    LamX.GivesTo X n_heard "_law_heard" (defScope s_heard) g cdg (defBody s_heard) "_law_ask" q (TTheard B T) := by
  intro f c' s H Q tl act hc h
  have gB : ∃ u, X.mg "BadSum" = some u ∧ RelV (.ref B) u := ⟨_, xB.gC, rfl⟩
  have gT : ∃ u, X.mg "BadText" = some u ∧ RelV (.ref T) u := ⟨_, xT.gC, rfl⟩
  refine ⟨_, pss_cons (ps_set (i := 1) sc_heard.nd (by rfl) (Or.inl (by rfl)) pe_non) (pss_consJ (ps_try_keep (i := 2) (c := .ref TE) (Wout := fun _ _ _ _ => False)
      (tb := fun W D σ H => ∃ Ech : XK, (∀ cls d (σ' : L2.St) H', σ'.length = 3 → Ech cls d H' → W cls d σ' H') ∧ σ[0]? = some (some (.ref f)) ∧ H c' = some (LamX.CodeO c' q) ∧ tl Ech H fun v H' => [v].length ≤ sizeLine ∧ ∀ p, H' p = none → D.rt (.ref p) (upd H' p (.lst [v])))
      (ts := fun a cls d => tAsg (tVar 2) (gName 1))
      (by rfl) (by rfl) (by rfl) sc_heard.nd (by rfl) (by rfl) ⟨by rfl, by decide, .inl mT⟩ LamX.takes0 (fun W pn xe tk _ => ?_) (fun a oe cls d pn _ _ => pss_one (ps_set (i := 1) sc_heard.nd (by rfl) (Or.inl (by rfl)) (pv 2))))
    (pss_cons (ps_if (pt_val (pe_callB call_isX (by rfl) mi (by decide +kernel) (pa_cons (pv 1) (pa_cons (C8.pe_gc (by rfl) gB) pa_nil)))) (pss_one (ps_ret (pe_tup (pa_cons pe_str (pa_cons (pe_xFld (pv 1)) pa_nil))))) pss_nil)
    (pss_one (ps_ret (pe_ifExp (pt_val (pe_callB call_isX (by rfl) mi (by decide +kernel) (pa_cons (pv 1) (pa_cons (C8.pe_gc (by rfl) gT) pa_nil)))) (pe_tup (pa_cons (pe_xFld (pv 1)) (pa_cons (pe_xFld (pv 1)) pa_nil))) (pe_tup (pa_cons pe_str pa_nil))))))), ?_⟩
  · refine ⟨fun pins s' σ H' D I h' => ?_⟩
    obtain ⟨Ech, hW, h1, h2, h3⟩ := h'
    exact (pss_one (ps_ret (pe_lst (pa_cons (act _ pn xe Ech _ _ (takes_len tk) (fun cls d σ' H' h hl => hW cls d σ' H' hl h)) pa_nil)))).run pins s' σ H' D I ⟨h1, h2, h3⟩
  · have isB : ∀ {a : Addr} {D C' : Addr} {d : Option Addr} {b : Bool} {H : Hp} {Q : VK}, H a = some (XO (.ref D) d a) → (∀ dd, d = some dd → ∃ fs, H dd = some (.xd fs)) → XIs X.K D → PySem.W.kitOne X.K (.ref D) (.ref C') = some b → Q (.bl b) H → rIsX X.K [.ref a, .ref C'] H Q :=
      fun ha hd hx hk q => ⟨_, _, _, _, _, _, rfl, ha, hd, hx, fun u r => r, hk, q⟩
    have fld : ∀ {a C dd : Addr} {fs : List (Str × V)} {fl : Str} {v : V} {H : Hp} {Q : VK}, H a = some (XO (.ref C) (some dd) a) → H dd = some (.xd fs) → XRd X.K C → PySem.W.findIn X.K (.ref C) fl = some none → fs.lookup fl = some v → Q v H →
        kXF X.K fl Q (.ref a) H :=
      fun h1 h2 h3 h4 h5 q => ⟨_, _, _, _, _, rfl, h1, h2, h3, h4, h5, q⟩
    repeat trivial
    with_reducible refine s_seqJ ?_
    refine ⟨heardE B T Q, fun cls d σ' H' hl hE => ?_, rfl, hc, h⟩
    obtain ⟨x0, x1, x2, rfl⟩ : ∃ x0 x1 x2, σ' = [x0, x1, x2] := by
      match σ', hl with
      | [x0, x1, x2], _ => exact ⟨x0, x1, x2, rfl⟩
    rcases hE with ⟨rfl, dd, v, rfl, hd, q⟩ | ⟨rfl, dd, v, w, rfl, hd, q⟩
    · refine ⟨true, eB, fun _ a ha => ?_, fun z => nomatch z⟩
      repeat trivial
      intro ha'
      have xa := ext_new (o := XO (.ref B) (some dd) a) ha
      repeat trivial
      refine isB upd_same (fun _ e => by cases e; exact ⟨_, xa _ _ hd⟩) (L2.XCls.is xB) iBB ?_
      repeat trivial
      refine ite_t (α := Unit) ?_
      repeat trivial
      refine fld upd_same (xa _ _ hd) (L2.XCls.rd xB) (xB.no "part" (by decide)) rfl ?_
      repeat trivial
      refine ⟨sl rfl, fun p hp => ?_⟩
      exact q p _ ((Up.of (M := []) xa).free hp) (fun b o e => ext_new hp _ _ (xa _ _ e)) upd_same
    · refine ⟨true, eT, fun _ a ha => ?_, fun z => nomatch z⟩
      repeat trivial
      intro ha'
      have xa := ext_new (o := XO (.ref T) (some dd) a) ha
      repeat trivial
      refine isB upd_same (fun _ e => by cases e; exact ⟨_, xa _ _ hd⟩) (L2.XCls.is xT) iTB ?_
      repeat trivial
      refine ite_f ?_
      repeat trivial
      refine isB upd_same (fun _ e => by cases e; exact ⟨_, xa _ _ hd⟩) (L2.XCls.is xT) iTT ?_
      repeat trivial
      refine ite_t (α := Unit) ?_
      repeat trivial
      refine fld upd_same (xa _ _ hd) (L2.XCls.rd xT) (xT.no "line" (by decide)) rfl ?_
      repeat trivial
      refine fld upd_same (xa _ _ hd) (L2.XCls.rd xT) (xT.no "word" (by decide)) rfl ?_
      repeat trivial
      refine ⟨sl rfl, fun p hp => ?_⟩
      exact q p _ ((Up.of (M := []) xa).free hp) (fun b o e => ext_new hp _ _ (xa _ _ e)) upd_same
/-- all of heard that its callers need -/
structure HeardF (P : Program) (w : World) (K : PySem.W.Frag) (mg : Str → Option Value) (B T : Addr) : Prop where
  fn : ∃ g fd, FunD K "_law_heard" "_law_heard" (defArgs s_heard) (defBody s_heard) (defScope s_heard) [] [] g fd ∧ mg "_law_heard" = some (.ref g)
  xB : TkX.XCls P w K mg "BadSum" B ["part"]
  xT : TkX.XCls P w K mg "BadText" T ["line", "word"]
  te : ∃ TE, mg "ToolError" = some (.ref TE) ∧ PySem.W.exmOne K (.ref B) (.ref TE) = some true ∧ PySem.W.exmOne K (.ref T) (.ref TE) = some true
  mi : mg "isinstance" = none
  iBB : PySem.W.kitOne K (.ref B) (.ref B) = some true
  iTB : PySem.W.kitOne K (.ref T) (.ref B) = some false
  iTT : PySem.W.kitOne K (.ref T) (.ref T) = some true
/-- _law_heard(lambda: body) -/
theorem pe_heard {X : Cx} {B T : Addr} {Ts : List (Addr × Str)} {k : Nat} {params : Arguments} {body : Expr} {scope : Scope} {t : XK → TE} {p lpos pos : Pos} {cdv : Value} (h : HeardF X.prog X.w X.K X.mg B T) (hl : LamF X.base X.mg cdv (X.env.qual ++ "<lambda>") Ts) (hcode : X.env.code = cdv) (hr : Room (k + 2) X.A)
    (hg : Gl X "_law_heard") (L : LamX.LamS X.env.scope scope) (hdef : defaultsOf params X.env = ([], [])) (hbind : ∀ (q : Str) (cl : List (Str × Addr)) (pm cv ctv : Value), bindArgs (PySem.W.kla_fn "<lambda>" q params body scope cl pm cv ctv) ⟨[], []⟩ = pure [])
    (hbody : ∀ (A : Around) (outer : List Env) (s : Shared) (H : Hp) (E : XK) (f c' : Addr), Room k (A.deeper (LamX.lamEnv X scope s.heap.objs.size f c')) → PE (LamX.lamCx X A outer s H E scope f c') body (t E)) :
    PE X (.Call (.Name "_law_heard" p) [.Lambda params body scope lpos] [] pos) (LamX.tLam Ts (TTheard B T) t) := by
  obtain ⟨g, fd, F, hm⟩ := h.fn
  obtain ⟨TE, mT, eB, eT⟩ := h.te
  obtain ⟨c, P, rfl, TB, hmT, hu⟩ := hl
  have b : Binds X.K fd ["_law_ask"] [] := F.bindsN fun _ _ _ _ _ _ us hl => match us, hl with | [_], _ => rfl
  obtain ⟨oc, od, dV, kV, doc, pm, an, cdg, ct, osl, rfl, lk, hcd, _, _⟩ := F.ex
  exact LamX.pe_lamcall hg hm F.kp lk hcd b sc_heard rfl (.inl (by rfl)) (heard_gives h.xB h.xT mT h.mi eB eT h.iBB h.iTB h.iTT) TB hcode hmT hu hr L hdef hbind hbody
end K8
end
section
set_option linter.all false
set_option maxRecDepth 100000
set_option maxHeartbeats 4000000
open PySem PySem.Spec PyProof.Rows L2 Tk PySem.NumText
namespace K8
/-- a text of code points -/
abbrev sOk (x : Str) : Prop := ∀ c ∈ x.cps.toList, c < 1114112
def spShown (C : Addr) : Sp := fun vs H Q _ => ∃ a s n, vs = [.ref a] ∧ SumAt C H a s n ∧ ∀ p, H p = none → Q (.ref p) (upd H p (.tup [.str s, .int n]))
def spText : Sp := fun vs H Q _ => ∃ s n, vs = [.str s, .int n] ∧ names.contains s = true ∧ n.natAbs < 10 ^ 60 ∧ Q (.str (textOf s n)) H
def spTold : Sp := fun vs H Q _ => ∃ w : Str, vs = [.str w] ∧ w.length ≤ 1000000 ∧ sOk w ∧
  ((∀ s n, ¬ W w s n) → ∀ H', Ext H H' → Q .non H') ∧ (∀ s n, W w s n → ∀ p H', H p = none → Ext H H' → H' p = some (.tup [.str s, .int n]) → Q (.ref p) H')
def spBent (K : PySem.W.Frag) : Sp := fun vs H Q _ => ∃ (p : Pn) (w : Str) (n : Nat), vs = [.ref p.p, .str w] ∧ w.length ≤ 1000 ∧ sOk w ∧ PenAt K p (n + 5) H ∧ ∀ (u : Str) (H' : Hp), u.length ≤ 10000 → sOk u → Up [p.p] H H' → PenAt K p n H' → Q (.str u) H'
/-- keys and sums, one beside the other -/
def Row (K : PySem.W.Frag) (C : Addr) (H : Hp) (x y : V) : Prop := ∃ p a s n, x = .ref p ∧ y = .ref a ∧ H p = some (.tup [.int (rankOf s), .int n]) ∧ SumAt C H a s n
def spOrder (K : PySem.W.Frag) (C : Addr) : Sp := fun vs H Q _ => ∃ a b xs ys, vs = [.ref a, .ref b] ∧ H a = some (.lst xs) ∧ H b = some (.lst ys) ∧ xs.length ≤ 1000 ∧ Paired (Row K C H) xs ys ∧ ∀ H', Ext H H' → Q (.bl true) H'
local macro_rules | `(tactic| trivial) => `(tactic| first
  | with_reducible refine s_seq ?_
  | with_reducible refine s_asg ?_
  | with_reducible refine s_op ?_
  | with_reducible refine s_c ?_
  | with_reducible refine s_name ?_
  | with_reducible refine s_cb ?_
  | with_reducible refine s_cons ?_
  | with_reducible refine s_nil ?_
  | with_reducible refine s_call ?_
  | with_reducible refine s_ret ?_
  | with_reducible refine s_ifS ?_
  | with_reducible refine s_test ?_
  | with_reducible refine s_B ?_
  | with_reducible refine s_kB ?_
  | with_reducible refine s_kI ?_
  | with_reducible refine s_addI ?_
  | with_reducible refine s_subI ?_
  | with_reducible refine s_ltI ?_
  | with_reducible refine s_leI ?_
  | with_reducible refine s_gtI ?_
  | with_reducible refine s_geI ?_
  | with_reducible refine s_int1 ?_
  | with_reducible refine s_intB ?_
  | with_reducible refine s_abs ?_
  | with_reducible refine s_eq rfl ?_
  | with_reducible refine s_ne rfl ?_
  | with_reducible refine s_isN ?_
  | with_reducible refine s_notN ?_
  | with_reducible refine s_un ?_
  | with_reducible refine s_unI ?_
  | with_reducible refine s_and ?_
  | with_reducible refine s_or ?_
  | with_reducible refine s_not ?_
  | with_reducible refine s_andV ?_
  | with_reducible refine s_orV ?_
  | with_reducible refine s_notV ?_
  | with_reducible refine s_if ?_
  | with_reducible refine s_tup ?_
  | with_reducible refine s_lst ?_
  | with_reducible refine s_fldT ?_
  | with_reducible refine s_drop ?_
  | with_reducible refine s_sl ?_
  | with_reducible refine s_none ?_
  | with_reducible refine s_some ?_
  | with_reducible refine s_sub ?_
  | with_reducible refine s_cval ?_
  | with_reducible refine s_bm ?_
  | with_reducible refine s_m1 ?_
  | with_reducible refine s_par ?_
  | with_reducible refine s_par3 ?_
  | with_reducible refine s_raise ?_
  | with_reducible refine s_sfld ?_
  | with_reducible refine s_make ?_
  | with_reducible refine s_dget ?_
  | with_reducible refine s_dget1 ?_
  | with_reducible refine s_js ?_
  | with_reducible refine s_jn ?_
  | with_reducible refine s_fmt ?_
  | with_reducible refine s_join _ ?_
  | with_reducible refine s_next ?_
  | ((with_reducible refine s_var (v := ?_) ?_ ?_); rotate_left; focus rfl))
/-! _law_shown, slots: 0 _law_one -/
abbrev s__law_shown : Stmt := top 18
abbrev n__law_shown : List Str := ["_law_one"]
theorem sc__law_shown : FnScope n__law_shown ["_law_one"] (defScope s__law_shown) := ⟨rfl, rfl, rfl, by decide +kernel, rfl, by decide +kernel, by decide +kernel⟩
def t__law_shown (K : PySem.W.Frag) (C : Addr) : TS :=
  (tSeqJ (tIfS (tOr (tNot (tB (tCB (rIsi K) (tCons (tVar 0) (tCons (tC (.ref C)) tNil))))) (tNot (tB (tCB (rIsi K) (tCons (tFld K (tVar 0) "source") (tCons (tC (.ty "str")) tNil))))))
    (tRet (tC .non))
    tNext)
    (tSeqJ (tIfS (tOr (tNot (tB (tCB (rIsi K) (tCons (tFld K (tVar 0) "number") (tCons (tC (.ty "int")) tNil))))) (tB (tCB (rIsi K) (tCons (tFld K (tVar 0) "number") (tCons (tC (.ty "bool")) tNil)))))
    (tRet (tC .non))
    tNext)
    (tRet (tTup (tCons (tFld K (tVar 0) "source") (tCons (tFld K (tVar 0) "number") tNil))))))
theorem tm__law_shown {P : Program} {w : World} {K : PySem.W.Frag} {mg : Str → Option Value} {base : Heap} {f : Addr} {cdv : Value} {A : Around} {outer : List Env} {s : Shared} {H : Hp} {E : XK} {C : Addr} (b_isinstance : mg "isinstance" = none) (g_Sum : ∃ u, mg "Sum" = some u ∧ RelV (.ref C) u) (b_str : mg "str" = none) (b_int : mg "int" = none) (b_bool : mg "bool" = none)
    (hr : Room 1 (A.deeper (envOfC "_law_shown" (defScope s__law_shown) s.heap.objs.size f cdv))) : PSs (cxOf (L2.CX P w) P w K mg base n__law_shown "_law_shown" (defScope s__law_shown) f cdv A outer s H E).nox (defBody s__law_shown) (t__law_shown K C) :=
  (pss_consJ (ps_if (PW.pt (pw_or (pt_not (pt_val (pe_callB call_isi (by rfl) b_isinstance (by decide +kernel) (pa_cons (pv 0) (pa_cons (C8.pe_gc (by rfl) g_Sum) pa_nil))))) (pw_or1 (pt_not (pt_val (pe_callB call_isi (by rfl) b_isinstance (by decide +kernel) (pa_cons (pe_fld (pv 0) (by rfl)) (pa_cons (pe_bltn (by rfl) b_str (by decide +kernel) rfl) pa_nil))))))))
    (pss_one (ps_ret pe_non))
    pss_nil)
    (pss_consJ (ps_if (PW.pt (pw_or (pt_not (pt_val (pe_callB call_isi (by rfl) b_isinstance (by decide +kernel) (pa_cons (pe_fld (pv 0) (by rfl)) (pa_cons (pe_bltn (by rfl) b_int (by decide +kernel) rfl) pa_nil))))) (pw_or1 (pt_val (pe_callB call_isi (by rfl) b_isinstance (by decide +kernel) (pa_cons (pe_fld (pv 0) (by rfl)) (pa_cons (pe_bltn (by rfl) b_bool (by decide +kernel) rfl) pa_nil)))))))
    (pss_one (ps_ret pe_non))
    pss_nil)
    (pss_one (ps_ret (pe_tup (pa_cons (pe_fld (pv 0) (by rfl)) (pa_cons (pe_fld (pv 0) (by rfl)) pa_nil)))))))

/-! _law_text, slots: 0 _law_source, 1 _law_number_here -/
abbrev s__law_text : Stmt := top 19
abbrev n__law_text : List Str := ["_law_source", "_law_number_here"]
theorem sc__law_text : FnScope n__law_text ["_law_source", "_law_number_here"] (defScope s__law_text) := ⟨rfl, rfl, rfl, by decide +kernel, rfl, by decide +kernel, by decide +kernel⟩
def t__law_text (K : PySem.W.Frag) : TS :=
  (tSeq (tIfS (tTest (tOp rEq (tVar 1) (tC (.int 0))))
    (tRet (tVar 0))
    tNext)
    (tRet (tOp rAddSt (tOp rAddSt (tVar 0) (tIfJ (tTest (tOp rGtI (tVar 1) (tC (.int 0)))) (tC (.str "+")) (tC (.str "-")))) (tCB rStrI (tCons (tCB rAbs (tCons (tVar 1) tNil)) tNil)))))
theorem tm__law_text {P : Program} {w : World} {K : PySem.W.Frag} {mg : Str → Option Value} {base : Heap} {f : Addr} {cdv : Value} {A : Around} {outer : List Env} {s : Shared} {H : Hp} {E : XK} (b_str : mg "str" = none) (b_abs : mg "abs" = none)
    (hr : Room 1 (A.deeper (envOfC "_law_text" (defScope s__law_text) s.heap.objs.size f cdv))) : PSs (cxOf (L2.CX P w) P w K mg base n__law_text "_law_text" (defScope s__law_text) f cdv A outer s H E).nox (defBody s__law_text) (t__law_text K) :=
  (pss_cons (ps_if (pt_cmpR op_eq (pv 1) pe_int (nomark _))
    (pss_one (ps_ret (pv 0)))
    pss_nil)
    (pss_one (ps_ret (pe_op oAddS (pe_op oAddS (pv 0) (pe_ifJ (pt_cmpR oGtI (pv 1) pe_int (nomark _)) pe_str pe_str)) (pe_callTy call_strI (by rfl) b_str (by decide +kernel) (pa_cons (pe_callB call_absI (by rfl) b_abs (by decide +kernel) (pa_cons (pv 1) pa_nil)) pa_nil))))))

/-! _law_told, slots: 0 _law_word, 1 _law_name, 2 _law_rest, 3 _law_figures, 4 _law_sign -/
abbrev s__law_told : Stmt := top 20
abbrev n__law_told : List Str := ["_law_word", "_law_name", "_law_rest", "_law_figures", "_law_sign"]
theorem sc__law_told : FnScope n__law_told ["_law_word"] (defScope s__law_told) := ⟨rfl, rfl, rfl, by decide +kernel, rfl, by decide +kernel, by decide +kernel⟩
def t__law_told (K : PySem.W.Frag) : TS :=
  (tSeqJ (tFor (iList K (tLst (tCons (tC (.str "p")) (tCons (tC (.str "z0")) (tCons (tC (.str "z1")) (tCons (tC (.str "z2")) (tCons (tC (.str "z3")) (tCons (tC (.str "o")) (tCons (tC (.str "s")) tNil))))))))) (gName 1)
    (tSeq (tAsg (tSl rSlS (tVar 0) (oSome (tCB rLenS (tCons (tVar 1) tNil))) oNone) (gName 2))
    (tSeqJ (tIfS (tAnd (tTest (tOp rEq (tSl rSlS (tVar 0) oNone (oSome (tCB rLenS (tCons (tVar 1) tNil)))) (tVar 1))) (tTest (tOp rEq (tVar 2) (tC (.str "")))))
    (tRet (tTup (tCons (tVar 1) (tCons (tC (.int 0)) tNil))))
    tNext)
    (tIfS (tTest (tOp rEq (tSl rSlS (tVar 0) oNone (oSome (tCB rLenS (tCons (tVar 1) tNil)))) (tVar 1)))
    (tSeq (tAsg (tSl rSlS (tVar 2) (oSome (tC (.int 1))) oNone) (gName 3))
    (tSeqJ (tIfS (tOr (tTest (tOp (rIn K true) (tSl rSlS (tVar 2) oNone (oSome (tC (.int 1)))) (tTup (tCons (tC (.str "+")) (tCons (tC (.str "-")) tNil))))) (tOr (tTest (tOp (rIn K false) (tSl rSlS (tVar 3) oNone (oSome (tC (.int 1)))) (tTup (tCons (tC (.str "")) (tCons (tC (.str "0")) tNil))))) (tTest (tOp rGtI (tCB rLenS (tCons (tVar 3) tNil)) (tC (.int 60))))))
    (tRet (tC .non))
    tNext)
    (tSeq (tIfS (tTest (tOp (rNeD K) (tLc (iStr (tVar 3)) (gName 4) (tTest (tOp rNotInS (tVar 4) (tC (.str "0123456789")))) (tVar 4) [4]) (tLst tNil)))
    (tRet (tC .non))
    tNext)
    (tRet (tTup (tCons (tVar 1) (tCons (tCB rIntS (tCons (tVar 2) tNil)) tNil)))))))
    tNext))))
    (tRet (tC .non)))
theorem tm__law_told {P : Program} {w : World} {K : PySem.W.Frag} {mg : Str → Option Value} {base : Heap} {f : Addr} {cdv : Value} {A : Around} {outer : List Env} {s : Shared} {H : Hp} {E : XK} (b_len : mg "len" = none) (b_int : mg "int" = none)
    (hr : Room 1 (A.deeper (envOfC "_law_told" (defScope s__law_told) s.heap.objs.size f cdv))) : PSs (cxOf (L2.CX P w) P w K mg base n__law_told "_law_told" (defScope s__law_told) f cdv A outer s H E).nox (defBody s__law_told) (t__law_told K) := by
  have hu64 := hr_u64 hr
  exact (pss_consJ (ps_for PassesOwn.never rfl (pi_list (pe_lst (pa_cons pe_str (pa_cons pe_str (pa_cons pe_str (pa_cons pe_str (pa_cons pe_str (pa_cons pe_str (pa_cons pe_str pa_nil))))))))) (pg_name (i := 1) sc__law_told.nd rfl (Or.inl rfl))
    (pss_cons (ps_set (i := 2) sc__law_told.nd rfl (Or.inl rfl) (pe_slice sl_str (pv 0) (po_some (pe_callB call_lenS (by rfl) b_len (by decide +kernel) (pa_cons (pv 1) pa_nil))) po_none))
    (pss_consJ (ps_if (PW.pt (pw_and (pt_cmpR op_eq (pe_slice sl_str (pv 0) po_none (po_some (pe_callB call_lenS (by rfl) b_len (by decide +kernel) (pa_cons (pv 1) pa_nil)))) (pv 1) (nomark _)) (pw_and1 (pt_cmpR op_eq (pv 2) pe_str (nomark _)))))
    (pss_one (ps_ret (pe_tup (pa_cons (pv 1) (pa_cons pe_int pa_nil)))))
    pss_nil)
    (pss_one (ps_if (pt_cmpR op_eq (pe_slice sl_str (pv 0) po_none (po_some (pe_callB call_lenS (by rfl) b_len (by decide +kernel) (pa_cons (pv 1) pa_nil)))) (pv 1) (nomark _))
    (pss_cons (ps_set (i := 3) sc__law_told.nd rfl (Or.inl rfl) (pe_slice sl_str (pv 2) (po_some pe_int) po_none))
    (pss_consJ (ps_if (PW.pt (pw_or (pt_cmpR op_notIn_seq (pe_slice sl_str (pv 2) po_none (po_some pe_int)) (pe_tup (pa_cons pe_str (pa_cons pe_str pa_nil))) (by with_unfolding_all rfl)) (pw_or (pt_cmpR op_in_seq (pe_slice sl_str (pv 3) po_none (po_some pe_int)) (pe_tup (pa_cons pe_str (pa_cons pe_str pa_nil))) (by with_unfolding_all rfl)) (pw_or1 (pt_cmpR oGtI (pe_callB call_lenS (by rfl) b_len (by decide +kernel) (pa_cons (pv 3) pa_nil)) pe_int (nomark _))))))
    (pss_one (ps_ret pe_non))
    pss_nil)
    (pss_cons (ps_if (pt_cmpR (op_neD hu64) (pe_lc (own := [("_law_sign", 4)]) (g := (gName 4)) (tt := (tTest (tOp rNotInS (tVar 4) (tC (.str "0123456789"))))) rfl sc__law_told.nd (pi_str (pv 3)) (blkOk_by (own := [("_law_sign", 4)]) (N := n__law_told) (sc := defScope s__law_told) (by decide +kernel)) (fun _ _ _ _ _ => (pg_name (i := 4) sc__law_told.nd rfl (Or.inl rfl))) (fun _ _ _ _ _ => (pts_one (pt_cmpR op_notInS (pv 4) pe_str rfl))) (fun _ _ _ _ _ => (pv 4))) (pe_lst pa_nil) (nomark _))
    (pss_one (ps_ret pe_non))
    pss_nil)
    (pss_one (ps_ret (pe_tup (pa_cons (pv 1) (pa_cons (pe_callTy call_intS (by rfl) b_int (by decide +kernel) (pa_cons (pv 2) pa_nil)) pa_nil))))))))
    pss_nil)))))
    (pss_one (ps_ret pe_non)))

/-! _law_bent, slots: 0 _law_pen_here, 1 _law_word, 2 _law_way, 3 _law_at, 4 _law_sign -/
abbrev s__law_bent : Stmt := top 21
abbrev n__law_bent : List Str := ["_law_pen_here", "_law_word", "_law_way", "_law_at", "_law_sign"]
theorem sc__law_bent : FnScope n__law_bent ["_law_pen_here", "_law_word"] (defScope s__law_bent) := ⟨rfl, rfl, rfl, by decide +kernel, rfl, by decide +kernel, by decide +kernel⟩
def t__law_bent (K : PySem.W.Frag) : TS :=
  (tSeq (tPar 2 3 (tCons (tCall (spDraw K) [] E0 (tCons (tVar 0) (tCons (tC (.int 6)) tNil))) (tCons (tCall (spDraw K) [] E0 (tCons (tVar 0) (tCons (tOp rAddI (tCB rLenS (tCons (tVar 1) tNil)) (tC (.int 1))) tNil))) tNil)))
    (tSeq (tAsg (tCall (spPick K) [] E0 (tCons (tVar 0) (tCons (tLst (tCons (tC (.str "")) (tCons (tC (.str " ")) (tCons (tC (.str "+")) (tCons (tC (.str "-")) (tCons (tC (.str "0")) (tCons (tC (.str "7")) (tCons (tC (.str "p")) (tCons (tC (.str "z")) (tCons (tC (.str "s")) (tCons (tC (.str "o")) (tCons (tC (.str "3")) (tCons (tC (.str "4")) (tCons (tC (.str "Z")) (tCons (tC (.str "\n")) (tCons (tC (.str ".")) (tCons (tC (.str "z1")) (tCons (tC (.str "=")) (tCons (tC (.str "  ")) tNil))))))))))))))))))) tNil))) (gName 4))
    (tSeq (tIfS (tTest (tOp rEq (tVar 2) (tC (.int 0))))
    (tRet (tOp rAddSt (tSl rSlS (tVar 1) oNone (oSome (tVar 3))) (tSl rSlS (tVar 1) (oSome (tOp rAddI (tVar 3) (tC (.int 1)))) oNone)))
    tNext)
    (tSeq (tIfS (tTest (tOp rEq (tVar 2) (tC (.int 1))))
    (tRet (tOp rAddSt (tOp rAddSt (tSl rSlS (tVar 1) oNone (oSome (tVar 3))) (tVar 4)) (tSl rSlS (tVar 1) (oSome (tVar 3)) oNone)))
    tNext)
    (tSeq (tIfS (tTest (tOp rEq (tVar 2) (tC (.int 2))))
    (tRet (tOp rAddSt (tOp rAddSt (tSl rSlS (tVar 1) oNone (oSome (tVar 3))) (tVar 4)) (tSl rSlS (tVar 1) (oSome (tOp rAddI (tVar 3) (tC (.int 1)))) oNone)))
    tNext)
    (tSeq (tIfS (tTest (tOp rEq (tVar 2) (tC (.int 3))))
    (tRet (tOp rAddSt (tVar 1) (tCall (spPick K) [] E0 (tCons (tVar 0) (tCons (tLst (tCons (tC (.str " ")) (tCons (tC (.str " p")) (tCons (tC (.str " x")) (tCons (tC (.str "0")) (tCons (tC (.str "+1")) (tCons (tC (.str "-")) (tCons (tC (.str "+")) (tCons (tC (.str "_1")) tNil))))))))) tNil)))))
    tNext)
    (tSeq (tIfS (tTest (tOp rEq (tVar 2) (tC (.int 4))))
    (tRet (tOp rAddSt (tOp rAddSt (tSl rSlS (tVar 1) oNone (oSome (tC (.int 2)))) (tCall (spPick K) [] E0 (tCons (tVar 0) (tCons (tLst (tCons (tC (.str "+")) (tCons (tC (.str "-")) (tCons (tC (.str "")) tNil)))) tNil)))) (tOp rMulS (tC (.str "9")) (tOp rAddI (tC (.int 59)) (tCall (spDraw K) [] E0 (tCons (tVar 0) (tCons (tC (.int 3)) tNil)))))))
    tNext)
    (tRet (tCall (spPick K) [] E0 (tCons (tVar 0) (tCons (tLst (tCons (tC (.str "")) (tCons (tC (.str " ")) (tCons (tC (.str "z")) (tCons (tC (.str "z4")) (tCons (tC (.str "z0+05")) (tCons (tC (.str "p-0")) (tCons (tC (.str "o+0")) (tCons (tC (.str "+5")) (tCons (tC (.str "5")) (tCons (tC (.str "p5")) (tCons (tC (.str "s+")) (tCons (tC (.str " p")) (tCons (tC (.str "P")) (tCons (tC (.str "z0 ")) (tCons (tC (.str "p+1 p")) tNil)))))))))))))))) tNil)))))))))))
theorem tm__law_bent {P : Program} {w : World} {K : PySem.W.Frag} {mg : Str → Option Value} {base : Heap} {f : Addr} {cdv : Value} {A : Around} {outer : List Env} {s : Shared} {H : Hp} {E : XK} (c__law_draw : Cl P w K mg base 2 "_law_draw" (spDraw K) []) (b_len : mg "len" = none) (c__law_pick : Cl P w K mg base 3 "_law_pick" (spPick K) [])
    (hr : Room 3 (A.deeper (envOfC "_law_bent" (defScope s__law_bent) s.heap.objs.size f cdv))) : PSs (cxOf (L2.CX P w) P w K mg base n__law_bent "_law_bent" (defScope s__law_bent) f cdv A outer s H E).nox (defBody s__law_bent) (t__law_bent K) :=
  (pss_cons (ps_par (i := 2) (j := 3) (by rfl) sc__law_bent.nd (by rfl) (by rfl) (by decide) (by rfl) (by rfl) (pa_cons (pe_cl c__law_draw hr (by decide) (by rfl) passL (pa_cons (pv 0) (pa_cons pe_int pa_nil))) (pa_cons (pe_cl c__law_draw hr (by decide) (by rfl) passL (pa_cons (pv 0) (pa_cons (pe_op oAddI (pe_callB call_lenS (by rfl) b_len (by decide +kernel) (pa_cons (pv 1) pa_nil)) pe_int) pa_nil))) pa_nil)) (by rfl))
    (pss_cons (ps_set (i := 4) sc__law_bent.nd rfl (Or.inl rfl) (pe_cl c__law_pick hr (by decide) (by rfl) passL (pa_cons (pv 0) (pa_cons (pe_lst (pa_cons pe_str (pa_cons pe_str (pa_cons pe_str (pa_cons pe_str (pa_cons pe_str (pa_cons pe_str (pa_cons pe_str (pa_cons pe_str (pa_cons pe_str (pa_cons pe_str (pa_cons pe_str (pa_cons pe_str (pa_cons pe_str (pa_cons pe_str (pa_cons pe_str (pa_cons pe_str (pa_cons pe_str (pa_cons pe_str pa_nil))))))))))))))))))) pa_nil))))
    (pss_cons (ps_if (pt_cmpR op_eq (pv 2) pe_int (nomark _))
    (pss_one (ps_ret (pe_op oAddS (pe_slice sl_str (pv 1) po_none (po_some (pv 3))) (pe_slice sl_str (pv 1) (po_some (pe_op oAddI (pv 3) pe_int)) po_none))))
    pss_nil)
    (pss_cons (ps_if (pt_cmpR op_eq (pv 2) pe_int (nomark _))
    (pss_one (ps_ret (pe_op oAddS (pe_op oAddS (pe_slice sl_str (pv 1) po_none (po_some (pv 3))) (pv 4)) (pe_slice sl_str (pv 1) (po_some (pv 3)) po_none))))
    pss_nil)
    (pss_cons (ps_if (pt_cmpR op_eq (pv 2) pe_int (nomark _))
    (pss_one (ps_ret (pe_op oAddS (pe_op oAddS (pe_slice sl_str (pv 1) po_none (po_some (pv 3))) (pv 4)) (pe_slice sl_str (pv 1) (po_some (pe_op oAddI (pv 3) pe_int)) po_none))))
    pss_nil)
    (pss_cons (ps_if (pt_cmpR op_eq (pv 2) pe_int (nomark _))
    (pss_one (ps_ret (pe_op oAddS (pv 1) (pe_cl c__law_pick hr (by decide) (by rfl) passL (pa_cons (pv 0) (pa_cons (pe_lst (pa_cons pe_str (pa_cons pe_str (pa_cons pe_str (pa_cons pe_str (pa_cons pe_str (pa_cons pe_str (pa_cons pe_str (pa_cons pe_str pa_nil))))))))) pa_nil))))))
    pss_nil)
    (pss_cons (ps_if (pt_cmpR op_eq (pv 2) pe_int (nomark _))
    (pss_one (ps_ret (pe_op oAddS (pe_op oAddS (pe_slice sl_str (pv 1) po_none (po_some pe_int)) (pe_cl c__law_pick hr (by decide) (by rfl) passL (pa_cons (pv 0) (pa_cons (pe_lst (pa_cons pe_str (pa_cons pe_str (pa_cons pe_str pa_nil)))) pa_nil)))) (pe_op oMulS pe_str (pe_op oAddI pe_int (pe_cl c__law_draw hr (by decide) (by rfl) passL (pa_cons (pv 0) (pa_cons pe_int pa_nil))))))))
    pss_nil)
    (pss_one (ps_ret (pe_cl c__law_pick hr (by decide) (by rfl) passL (pa_cons (pv 0) (pa_cons (pe_lst (pa_cons pe_str (pa_cons pe_str (pa_cons pe_str (pa_cons pe_str (pa_cons pe_str (pa_cons pe_str (pa_cons pe_str (pa_cons pe_str (pa_cons pe_str (pa_cons pe_str (pa_cons pe_str (pa_cons pe_str (pa_cons pe_str (pa_cons pe_str (pa_cons pe_str pa_nil)))))))))))))))) pa_nil))))))))))))

/-! _law_order_right, slots: 0 _law_keys, 1 _law_some, 2 _law_low, 3 _law_one, 4 _law_high, 5 _law_two, 6 _law_heard_here -/
abbrev s__law_order_right : Stmt := top 22
abbrev n__law_order_right : List Str := ["_law_keys", "_law_some", "_law_low", "_law_one", "_law_high", "_law_two", "_law_heard_here"]
theorem sc__law_order_right : FnScope n__law_order_right ["_law_keys", "_law_some"] (defScope s__law_order_right) := ⟨rfl, rfl, rfl, by decide +kernel, rfl, by decide +kernel, by decide +kernel⟩
def t__law_order_right (K : PySem.W.Frag) (C : Addr) : TS :=
  (tSeqJ (tFor (iZip K (tCons (tVar 0) (tCons (tVar 1) tNil))) (gTup K 2 (gCons (gName 2) (gCons (gName 3) gNil)))
    (tFor (iZip K (tCons (tVar 0) (tCons (tVar 1) tNil))) (gTup K 2 (gCons (gName 4) (gCons (gName 5) gNil)))
    (tSeq (tAsg (tLst (tCons (tOp (rOwnCmp C (spCmp K C eqP) E0) (tVar 3) (tVar 5)) (tCons (tOp (rOwnNe C (spCmp K C eqP) E0) (tVar 3) (tVar 5)) (tCons (tOp (rOwnCmp C (spCmp K C ltP) E0) (tVar 3) (tVar 5)) (tCons (tOp (rOwnCmp C (spCmp K C leP) E0) (tVar 3) (tVar 5)) (tCons (tOp (rOwnCmp C (spCmp K C gtP) E0) (tVar 3) (tVar 5)) (tCons (tOp (rOwnCmp C (spCmp K C geP) E0) (tVar 3) (tVar 5)) tNil))))))) (gName 6))
    (tIfS (tTest (tOp (rNeD K) (tVar 6) (tLst (tCons (tOp (rEqD K) (tVar 2) (tVar 4)) (tCons (tOp (rNeD K) (tVar 2) (tVar 4)) (tCons (tOp (rTlt K) (tVar 2) (tVar 4)) (tCons (tOp (rTle K) (tVar 2) (tVar 4)) (tCons (tOp (rTgt K) (tVar 2) (tVar 4)) (tCons (tOp (rTge K) (tVar 2) (tVar 4)) tNil)))))))))
    (tRet (tC (.bl false)))
    tNext))))
    (tRet (tC (.bl true))))
theorem tm__law_order_right {P : Program} {w : World} {K : PySem.W.Frag} {mg : Str → Option Value} {base : Heap} {f : Addr} {cdv : Value} {A : Around} {outer : List Env} {s : Shared} {H : Hp} {E : XK} {C : Addr} (b_zip : mg "zip" = none) (o_Sum__ge__ : OM P w K mg base 2 C "__ge__" (spCmp K C geP)) (o_Sum__gt__ : OM P w K mg base 2 C "__gt__" (spCmp K C gtP)) (o_Sum__le__ : OM P w K mg base 2 C "__le__" (spCmp K C leP)) (o_Sum__lt__ : OM P w K mg base 2 C "__lt__" (spCmp K C ltP)) (o_Sum__eq__ : OM P w K mg base 2 C "__eq__" (spCmp K C eqP)) (n_Sum : PySem.W.findIn K (.ref C) "__ne__" = some (some (.builtin "object.__ne__"))) (m_Sum : PySem.W.mroIn K C (.type "object") = some true)
    (hr : Room 4 (A.deeper (envOfC "_law_order_right" (defScope s__law_order_right) s.heap.objs.size f cdv))) : PSs (cxOf (L2.CX P w) P w K mg base n__law_order_right "_law_order_right" (defScope s__law_order_right) f cdv A outer s H E).nox (defBody s__law_order_right) (t__law_order_right K C) := by
  have hu1 := hr_u hr
  have hu64 := hr_u64 hr
  exact (pss_consJ (ps_for PassesOwn.never rfl (pi_zip (by rfl) b_zip (pa_cons (pv 0) (pa_cons (pv 1) pa_nil))) (pg_tup rfl (pgs_cons (pg_name (i := 2) sc__law_order_right.nd rfl (Or.inl rfl)) (pgs_cons (pg_name (i := 3) sc__law_order_right.nd rfl (Or.inl rfl)) pgs_nil)))
    (pss_one (ps_for PassesOwn.never rfl (pi_zip (by rfl) b_zip (pa_cons (pv 0) (pa_cons (pv 1) pa_nil))) (pg_tup rfl (pgs_cons (pg_name (i := 4) sc__law_order_right.nd rfl (Or.inl rfl)) (pgs_cons (pg_name (i := 5) sc__law_order_right.nd rfl (Or.inl rfl)) pgs_nil)))
    (pss_cons (ps_set (i := 6) sc__law_order_right.nd rfl (Or.inl rfl) (pe_lst (pa_cons (pe_cmpR (oOwnCmp (op := .Eq) (fun _ _ => rfl) o_Sum__eq__ hr (by decide) passL) (pv 3) (pv 5) (nomark _)) (pa_cons (pe_cmpR (oOwnNe o_Sum__eq__ n_Sum m_Sum hr (by decide) passL) (pv 3) (pv 5) (nomark _)) (pa_cons (pe_cmpR (oOwnCmp (op := .Lt) (fun _ _ => rfl) o_Sum__lt__ hr (by decide) passL) (pv 3) (pv 5) (nomark _)) (pa_cons (pe_cmpR (oOwnCmp (op := .LtE) (fun _ _ => rfl) o_Sum__le__ hr (by decide) passL) (pv 3) (pv 5) (nomark _)) (pa_cons (pe_cmpR (oOwnCmp (op := .Gt) (fun _ _ => rfl) o_Sum__gt__ hr (by decide) passL) (pv 3) (pv 5) (nomark _)) (pa_cons (pe_cmpR (oOwnCmp (op := .GtE) (fun _ _ => rfl) o_Sum__ge__ hr (by decide) passL) (pv 3) (pv 5) (nomark _)) pa_nil))))))))
    (pss_one (ps_if (pt_cmpR (op_neD hu64) (pv 6) (pe_lst (pa_cons (pe_cmpR (op_eqD hu64) (pv 2) (pv 4) (nomark _)) (pa_cons (pe_cmpR (op_neD hu64) (pv 2) (pv 4) (nomark _)) (pa_cons (pe_cmpR (oTlt hu1) (pv 2) (pv 4) (nomark _)) (pa_cons (pe_cmpR (oTle hu1) (pv 2) (pv 4) (nomark _)) (pa_cons (pe_cmpR (oTgt hu1) (pv 2) (pv 4) (nomark _)) (pa_cons (pe_cmpR (oTge hu1) (pv 2) (pv 4) (nomark _)) pa_nil))))))) (nomark _))
    (pss_one (ps_ret pe_bl))
    pss_nil))))))
    (pss_one (ps_ret pe_bl)))

section
variable {K : PySem.W.Frag} {C B T : Addr}
theorem rd_shown (S : SumC K C) {vs : List V} {H : Hp} {Q : VK} {E : XK} (h : spShown C vs H Q E) : t__law_shown K C { nx := fun _ H' => Q .non H', rt := Q } (start n__law_shown vs) H := by
  obtain ⟨a, s, n, rfl, ha, q⟩ := h
  unfold t__law_shown
  with_reducible refine s_seqJ ?_
  repeat trivial
  refine s_isiO (ha.is S) S.own.yes ?_
  repeat trivial
  refine ite_f ?_
  repeat trivial
  refine f_src S ha ?_
  repeat trivial
  refine s_isiB (.str s) (by decide) ?_
  repeat trivial
  refine ite_f ?_
  repeat trivial
  with_reducible refine s_seqJ ?_
  repeat trivial
  refine f_num S ha ?_
  repeat trivial
  refine s_isiB (.int n) (by decide) ?_
  repeat trivial
  refine ite_f ?_
  repeat trivial
  refine f_num S ha ?_
  repeat trivial
  refine s_isiB (.int n) (by decide) ?_
  repeat trivial
  refine ite_f ?_
  repeat trivial
  refine f_src S ha ?_
  repeat trivial
  refine f_num S ha ?_
  repeat trivial
  exact ⟨sl rfl, q⟩
theorem rd_text {vs : List V} {H : Hp} {Q : VK} {E : XK} (h : spText vs H Q E) : t__law_text K { nx := fun _ H' => Q .non H', rt := Q } (start n__law_text vs) H := by
  obtain ⟨s, n, rfl, hs, hn, q⟩ := h
  have ls : s.length ≤ 2 := name_short s (by simpa using hs)
  have hz : (200 : Nat) ≤ sizeLine := by decide
  have lp : ("+" : Str).length = 1 := rfl
  have lm : ("-" : Str).length = 1 := rfl
  obtain ⟨a, ha⟩ : ∃ a : Int, (if n < 0 then -n else n) = a := ⟨_, rfl⟩
  have ha0 : 0 ≤ a := by rw [← ha]; split <;> omega
  have ha1 : a < 10 ^ 60 := by rw [← ha]; split <;> omega
  have ld := dec_short ha0 ha1
  unfold textOf at q
  unfold t__law_text
  repeat trivial
  refine ite_b (fun e => ?_) (fun e => ?_)
  · have e' : n = 0 := by simpa using e
    rw [if_pos e'] at q
    repeat trivial
  have e0 : n ≠ 0 := by simpa using e
  rw [if_neg e0, ha] at q
  repeat trivial
  with_reducible refine s_ifW (fun v H' => H = H' ∧ v = .str (sgn n)) (fun v H' hv => ?_) (fun tail => ?_)
  · obtain ⟨rfl, rfl⟩ := hv
    have lg : (sgn n).length = 1 := by unfold sgn; split <;> rfl
    refine s_addS (by omega) ?_
    repeat trivial
    rw [ha]
    refine s_strI (log_short (by omega)) ?_
    refine s_addS (by rw [len_app]; show _ + (dec a).length ≤ _; omega) ?_
    exact q
  · repeat trivial
    refine ite_b (fun e => ?_) (fun e => ?_)
    · refine tail _ _ ⟨rfl, ?_⟩
      unfold sgn; rw [if_pos (by simpa using e)]
    · refine tail _ _ ⟨rfl, ?_⟩
      unfold sgn; rw [if_neg (by simpa using e)]
theorem cut_len (z : Str) (lo hi : Option Int) : (cutS z lo hi).length ≤ z.length := by
  have e : z.cps.toList.length = z.length := Array.length_toList
  unfold cutS Str.length
  rw [List.size_toArray, List.length_take, List.length_drop]
  have : z.cps.toList.length = z.cps.size := Array.length_toList
  omega
theorem mul_len {z : Str} {n : Int} (h0 : 0 ≤ n) (hz : z.length = 1) : (Txt.mul z n).length ≤ n.toNat := by
  by_cases h : n < 1
  · unfold Txt.mul; rw [if_pos h]; exact Nat.zero_le _
  · obtain ⟨c, hc⟩ : ∃ c, z.cps = #[c] := by
      have : z.cps.size = 1 := hz
      exact Array.size_eq_one_iff.mp this
    have e := mul_signs (n := n) (by omega) hc
    rw [← str_len, e, List.length_replicate]; exact Nat.le_refl _
/-- pick of a list that was just laid -/
theorem s_pick {p : Pn} {l : Addr} {n : Nat} {xs : List V} {H : Hp} {Q : VK} {E : XK} (hl : H l = none) (x0 : xs ≠ []) (lx : xs.length ≤ 1000000) (hp : PenAt K p (n + 1) H) (k : ∀ x H', x ∈ xs → Up [p.p] H H' → PenAt K p n H' → Q x H') :
    spPick K ([.ref p.p, .ref l] ++ []) (upd H l (.lst xs)) Q E := by
  have x1 := ext_new (o := .lst xs) hl
  exact ⟨p, l, xs, n, rfl, x0, lx, SqL.of (off_at (by simpa using hp.ne hl) upd_same), hp.ext x1, fun x H' hx u h' => k x H' hx ((Up.of x1).trans u) h'⟩
theorem ok_app {x y : Str} (h : sOk x) (k : sOk y) : sOk (x ++ y) := fun c hc => by
  rw [cps_app] at hc
  rcases List.mem_append.mp hc with hc | hc
  · exact h c hc
  · exact k c hc
theorem ok_cut {x : Str} (h : sOk x) (lo hi : Option Int) : sOk (cutS x lo hi) := fun c hc => by
  unfold cutS at hc
  have hc : c ∈ ((x.cps.toList.drop (HT.sIx x.length 0 lo)).take (HT.sIx x.length x.length hi - HT.sIx x.length 0 lo)) := by simpa using hc
  exact h c (List.mem_of_mem_drop (List.mem_of_mem_take hc))
theorem ok_mul {z : Str} {n : Int} {d : Nat} (hz : z.cps = #[d]) (hd : d < 1114112) : sOk (Txt.mul z n) := fun c hc => by
  by_cases h : n < 1
  · unfold Txt.mul at hc; rw [if_pos h] at hc; cases hc
  · rw [mul_signs (n := n) (by omega) hz] at hc
    rw [List.eq_of_mem_replicate hc]; exact hd
theorem s_pickS {p : Pn} {l : Addr} {n m : Nat} {H : Hp} {Q : VK} {E : XK} (ys : List Str) (hl : H l = none) (hp : PenAt K p (n + 1) H) (k : ∀ y H', y.length ≤ m → sOk y → Up [p.p] H H' → PenAt K p n H' → Q (.str y) H')
    (y0 : ys ≠ [] := by decide) (ly : ys.length ≤ 1000000 := by decide) (hm : ∀ y ∈ ys, y.length ≤ m ∧ sOk y := by decide +kernel) :
    spPick K ([.ref p.p, .ref l] ++ []) (upd H l (.lst (ys.map V.str))) Q E :=
  s_pick hl (by simpa using y0) (by rw [List.length_map]; exact ly) hp fun x H' hx u h' => by
    obtain ⟨y, hy, rfl⟩ := List.mem_map.mp hx
    exact k y H' (hm y hy).1 (hm y hy).2 u h'
theorem rd_bent {vs : List V} {H : Hp} {Q : VK} {E : XK} (h : spBent K vs H Q E) : t__law_bent K { nx := fun _ H' => Q .non H', rt := Q } (start n__law_bent vs) H := by
  obtain ⟨p, w, n, rfl, hw, ow, hp, q⟩ := h
  have oc := ok_cut ow
  have hz : (100000 : Nat) ≤ sizeLine := by decide
  have cl := cut_len w
  unfold t__law_bent
  repeat trivial
  refine ⟨p, _, n + 4, rfl, by decide, by decide, hp, fun way H1 d0 d1 u1 hp1 => ?_⟩
  repeat trivial
  refine s_lenS (by omega) ?_
  repeat trivial
  refine ⟨p, _, n + 3, rfl, by omega, by omega, hp1, fun at_ H2 e0 e1 u2 hp2 => ?_⟩
  repeat trivial
  refine ⟨_, _, rfl, ?_⟩
  repeat trivial
  refine ⟨sl rfl, fun l hl => ?_⟩
  repeat trivial
  refine s_pickS (m := 2) ["", " ", "+", "-", "0", "7", "p", "z", "s", "o", "3", "4", "Z", "\n", ".", "z1", "=", "  "] hl hp2 fun y H3 ly oy u3 hp3 => ?_
  have u := (u1.trans u2).trans u3
  repeat trivial
  refine ite_b (fun e => ?_) (fun e => ?_)
  · repeat trivial
    refine s_slS (by omega) ?_
    repeat trivial
    refine s_slS (by omega) ?_
    have c1 := cl none (some at_)
    have c2 := cl (some (at_ + 1)) none
    refine s_addS (by omega) ?_
    exact q _ _ (by rw [len_app]; omega) (ok_app (oc _ _) (oc _ _)) u (hp3.less (by omega))
  repeat trivial
  refine ite_b (fun e => ?_) (fun e => ?_)
  · repeat trivial
    refine s_slS (by omega) ?_
    repeat trivial
    have c1 := cl none (some at_)
    have c2 := cl (some at_) none
    refine s_addS (by omega) ?_
    repeat trivial
    refine s_slS (by omega) ?_
    refine s_addS (by rw [len_app]; omega) ?_
    exact q _ _ (by rw [len_app, len_app]; omega) (ok_app (ok_app (oc _ _) oy) (oc _ _)) u (hp3.less (by omega))
  repeat trivial
  refine ite_b (fun e => ?_) (fun e => ?_)
  · repeat trivial
    refine s_slS (by omega) ?_
    repeat trivial
    have c1 := cl none (some at_)
    have c2 := cl (some (at_ + 1)) none
    refine s_addS (by omega) ?_
    repeat trivial
    refine s_slS (by omega) ?_
    refine s_addS (by rw [len_app]; omega) ?_
    exact q _ _ (by rw [len_app, len_app]; omega) (ok_app (ok_app (oc _ _) oy) (oc _ _)) u (hp3.less (by omega))
  repeat trivial
  refine ite_b (fun e => ?_) (fun e => ?_)
  · repeat trivial
    refine ⟨sl rfl, fun l hl => ?_⟩
    repeat trivial
    refine s_pickS (m := 2) [" ", " p", " x", "0", "+1", "-", "+", "_1"] hl hp3 fun z H4 lz oz u4 hp4 => ?_
    refine s_addS (by omega) ?_
    exact q _ _ (by rw [len_app]; omega) (ok_app ow oz) (u.trans u4) (hp4.less (by omega))
  repeat trivial
  refine ite_b (fun e => ?_) (fun e => ?_)
  · repeat trivial
    refine s_slS (by omega) ?_
    repeat trivial
    refine ⟨sl rfl, fun l hl => ?_⟩
    repeat trivial
    have c1 := cl none (some 2)
    refine s_pickS (m := 1) ["+", "-", ""] hl hp3 fun z H4 lz oz u4 hp4 => ?_
    refine s_addS (by omega) ?_
    repeat trivial
    refine ⟨p, _, n, rfl, by decide, by decide, hp4, fun d H5 f0 f1 u5 hp5 => ?_⟩
    repeat trivial
    have l9 : ("9" : Str).length = 1 := rfl
    refine ⟨"9", 59 + d, rfl, rfl, by omega, by omega, by omega, ?_⟩
    have lm := mul_len (n := 59 + d) (by omega) l9
    refine s_addS (by rw [len_app]; omega) ?_
    exact q _ _ (by rw [len_app, len_app]; omega) (ok_app (ok_app (oc _ _) oz) (ok_mul (d := 57) (by decide +kernel) (by decide))) ((u.trans u4).trans u5) hp5
  · repeat trivial
    refine ⟨sl rfl, fun l hl => ?_⟩
    repeat trivial
    refine s_pickS (m := 5) ["", " ", "z", "z4", "z0+05", "p-0", "o+0", "+5", "5", "p5", "s+", " p", "P", "z0 ", "p+1 p"] hl hp3 fun z H4 lz oz u4 hp4 => ?_
    exact q _ _ (by omega) oz (u.trans u4) (hp4.less (by omega))
theorem strOk_of {x : Str} (h : sOk x) : PyData.strOk x = true := by
  unfold PyData.strOk
  rw [← Array.all_toList, List.all_eq_true]
  exact fun c hc => decide_eq_true (h c hc)
theorem strs_shaped : ∀ ns : List Str, (∀ x ∈ ns, sOk x) → PyData.canLayAll0 (ns.map PyData.str) = true ∧ PyData.depthAll (ns.map PyData.str) = 0
  | [], _ => ⟨rfl, rfl⟩
  | x :: r, h => by
    obtain ⟨h1, h2⟩ := strs_shaped r fun y hy => h y (List.mem_cons_of_mem _ hy)
    have h3 := strOk_of (h x List.mem_cons_self)
    simp [PyData.canLayAll0, PyData.canLay0, PyData.depthAll, PyData.depth, h1, h2, h3]
theorem shaped_strs (ns : List Str) (h : ∀ x ∈ ns, sOk x) : SeqAt.shaped (.list (ns.map PyData.str)) = true := by
  obtain ⟨h1, h2⟩ := strs_shaped ns h
  simp [SeqAt.shaped, PyData.canLay0, PyData.depth, h1, h2]
theorem dpStrs {K : PySem.W.Frag} {H : Hp} : ∀ {xs : List Str}, DpAll K H (xs.map V.str) (xs.map PyData.str)
  | [] => .nil
  | x :: _ => .cons (.str x) dpStrs
/-- a word behind one of the names -/
theorem W_behind {w s : Str} {r : List Nat} (hs : s ∈ names) (hw : w.cps.toList = s.cps.toList ++ r) {s' : Str} {n : Int} (h : W w s' n) : s' = s ∧
    ((r = [] ∧ n = 0) ∨ ∃ c ds, r = c :: ds ∧ Good ds ∧ ((c = 43 ∧ n = (digitsVal ds : Nat)) ∨ (c = 45 ∧ n = -((digitsVal ds : Nat) : Int)))) := by
  have z := (name_size s hs r).1
  obtain ⟨h1, _, h3⟩ := h
  rw [hw, z] at h1 h3
  rw [List.drop_left] at h3
  rw [List.take_left] at h1
  exact ⟨str_ext h1, h3⟩
theorem W_name {w s : Str} {n : Int} (h : W w s n) : s ∈ names ∧ w.cps.toList.take s.length = s.cps.toList := by
  obtain ⟨r, e, _⟩ := h.cut
  refine ⟨by simpa using h.2.1, ?_⟩
  have l : s.cps.toList.length = s.length := Array.length_toList
  rw [e, ← l, List.take_left]
theorem pm_contains {x : Str} {c : Nat} (e : x.cps.toList = [c]) : [("+" : Str), "-"].contains x = decide (c = 43 ∨ c = 45) := by
  have zp : ("+" : Str).cps.toList = [43] := by decide +kernel
  have zm : ("-" : Str).cps.toList = [45] := by decide +kernel
  rw [Bool.eq_iff_iff, List.contains_iff_mem, decide_eq_true_iff]
  constructor
  · intro hm
    rcases List.mem_cons.mp hm with h | hm
    · rw [h, zp] at e; cases e; exact .inl rfl
    · rcases List.mem_cons.mp hm with h | hm
      · rw [h, zm] at e; cases e; exact .inr rfl
      · cases hm
  · rintro (rfl | rfl)
    · rw [str_ext (a := x) (b := "+") (by rw [e, zp])]; exact List.mem_cons_self
    · rw [str_ext (a := x) (b := "-") (by rw [e, zm])]; exact List.mem_cons_of_mem _ List.mem_cons_self
theorem zero_contains {x : Str} {ds : List Nat} (e : x.cps.toList = ds.take 1) : [("" : Str), "0"].contains x = decide (ds = [] ∨ ds.head? = some 48) := by
  have z0 : ("0" : Str).cps.toList = [48] := by decide +kernel
  have ze : ("" : Str).cps.toList = [] := by decide +kernel
  rw [Bool.eq_iff_iff, List.contains_iff_mem, decide_eq_true_iff]
  cases ds with
  | nil =>
    refine ⟨fun _ => .inl rfl, fun _ => ?_⟩
    rw [str_ext (a := x) (b := "") (by rw [e, ze]; rfl)]; exact List.mem_cons_self
  | cons c r =>
    have e' : x.cps.toList = [c] := e
    constructor
    · intro hm
      rcases List.mem_cons.mp hm with h | hm
      · rw [h, ze] at e'; cases e'
      · rcases List.mem_cons.mp hm with h | hm
        · rw [h, z0] at e'; cases e'; exact .inr rfl
        · cases hm
    · rintro (h | h)
      · cases h
      · injection h with h
        subst h
        rw [str_ext (a := x) (b := "0") (by rw [e', z0])]; exact List.mem_cons_of_mem _ List.mem_cons_self
theorem rd_told {vs : List V} {H : Hp} {Q : VK} {E : XK} (h : spTold vs H Q E) : t__law_told K { nx := fun _ H' => Q .non H', rt := Q } (start n__law_told vs) H := by
  obtain ⟨w, rfl, hw, ow, hno, hyes⟩ := h
  have hz : (1000010 : Nat) ≤ sizeLine := by decide
  unfold t__law_told
  with_reducible refine s_seqJ ?_
  refine s_forL ?_
  repeat trivial
  refine ⟨sl rfl, fun p1 h1 => ?_⟩
  have x1 := ext_new (o := .lst (names.map V.str)) h1
  refine forL (xs := names.map V.str) (fun i σ H' => (∃ a b c d, σ = [some (.str w), a, b, c, d]) ∧ Ext (upd H p1 (.lst (names.map V.str))) H' ∧ ∀ j < i, ∀ s, names[j]? = some s → w.cps.toList.take s.length ≠ s.cps.toList)
    (SqL.of upd_same) ⟨⟨_, _, _, _, rfl⟩, fun _ _ z => z, fun j hj => absurd hj (Nat.not_lt_zero _)⟩ (fun i σ H' _ hp => SqL.of (hp.2.1 _ _ upd_same)) (fun i x σ H' hx hp => ?_) (fun σ H' hp => ?_)
  · obtain ⟨⟨a, b, c, d, rfl⟩, ex, hno'⟩ := hp
    obtain ⟨s, hs, rfl⟩ : ∃ s, names[i]? = some s ∧ x = .str s := by
      rw [List.getElem?_map] at hx
      cases q : names[i]? with
      | none => rw [q] at hx; cases hx
      | some s => rw [q] at hx; exact ⟨s, rfl, (Option.some.inj hx).symm⟩
    have hm : s ∈ names := List.mem_of_getElem? hs
    have ls : s.length ≤ 2 := name_short s hm
    have x0 : Ext H H' := fun b o z => ex _ _ (x1 _ _ z)
    have epre : (cutS w none (some (s.length : Nat))).cps.toList = w.cps.toList.take s.length := cut_pre w s.length
    have erest : (cutS w (some (s.length : Nat)) none).cps.toList = w.cps.toList.drop s.length := cut_suf w s.length
    have dpre : decide (V.str (cutS w none (some (s.length : Nat))) = V.str s) = decide (w.cps.toList.take s.length = s.cps.toList) := by
      refine decide_eq_decide.mpr ⟨fun z => ?_, fun z => ?_⟩
      · injection z with z
        rw [← epre, z]
      · exact congrArg V.str (str_ext (by rw [epre, z]))
    have lrest := cut_len w (some (s.length : Nat)) none
    revert erest lrest
    generalize hrest : cutS w (some (s.length : Nat)) none = rest
    intro erest lrest
    repeat trivial
    refine s_lenS (by omega) ?_
    repeat trivial
    refine s_slS (by omega) ?_
    rw [hrest]
    repeat trivial
    have ds : s.cps.toList.length = s.length := Array.length_toList
    have lrw : rest.cps.toList.length = rest.length := Array.length_toList
    have orest : sOk rest := by rw [← hrest]; exact ok_cut ow _ _
    have jn : ∀ {H2 : Hp}, Ext H' H2 → Ext H H2 := fun e b o z => e _ _ (x0 _ _ z)
    have stay : w.cps.toList.take s.length ≠ s.cps.toList → ∀ j < i + 1, ∀ s', names[j]? = some s' → w.cps.toList.take s'.length ≠ s'.cps.toList := fun hne j hj s' hs' => by
      by_cases hji : j < i
      · exact hno' j hji s' hs'
      · have : j = i := by omega
        subst this
        rw [hs] at hs'; cases hs'; exact hne
    with_reducible refine s_seqW (α := Unit) (fun _ => [some (.str w), some (.str s), some (.str rest), c, d]) (fun _ H2 => H' = H2 ∧ ¬ (w.cps.toList.take s.length = s.cps.toList ∧ rest = "")) (fun _ H2 hw2 => ?_) (fun tail => ?_)
    · obtain ⟨rfl, hnb⟩ := hw2
      repeat trivial
      refine s_lenS (by omega) ?_
      repeat trivial
      refine s_slS (by omega) ?_
      repeat trivial
      rw [dpre]
      refine ite_b (fun e => ?_) (fun e => ?_)
      · have et := of_decide_eq_true e
        have hsp : w.cps.toList = s.cps.toList ++ rest.cps.toList := by rw [erest, ← et, List.take_append_drop]
        have Wb : ∀ s' n, W w s' n → _ := fun s' n hW => W_behind hm hsp hW
        have hr0 : rest ≠ "" := fun z => hnb ⟨et, z⟩
        obtain ⟨c0, ds', hcd⟩ : ∃ c0 ds', rest.cps.toList = c0 :: ds' := by
          cases q : rest.cps.toList with
          | nil => exact absurd (str_ext (by rw [q]; decide +kernel)) hr0
          | cons a l => exact ⟨a, l, rfl⟩
        have e1 : (cutS rest none (some 1)).cps.toList = [c0] := by rw [show (cutS rest none (some 1)).cps.toList = rest.cps.toList.take 1 from cut_pre rest 1, hcd]; rfl
        have e2 : (cutS rest (some 1) none).cps.toList = ds' := by rw [show (cutS rest (some 1) none).cps.toList = rest.cps.toList.drop 1 from cut_suf rest 1, hcd]; rfl
        have ofg : sOk (cutS rest (some 1) none) := ok_cut orest _ _
        have lfg := cut_len rest (some 1) none
        repeat trivial
        refine s_slS (by omega) ?_
        repeat trivial
        revert e2 ofg lfg
        generalize cutS rest (some 1) none = fg
        intro e2 ofg lfg
        have lf : fg.length = ds'.length := by rw [← str_len, e2]
        have e3 : (cutS fg none (some 1)).cps.toList = ds'.take 1 := by rw [show (cutS fg none (some 1)).cps.toList = fg.cps.toList.take 1 from cut_pre fg 1, e2]
        with_reducible refine s_seqW (α := Unit) (fun _ => [some (.str w), some (.str s), some (.str rest), some (.str fg), d]) (fun _ H2 => Ext H' H2 ∧ (c0 = 43 ∨ c0 = 45) ∧ ds' ≠ [] ∧ ds'.length ≤ 60 ∧ ds'.head? ≠ some 48) (fun _ H2 hw3 => ?_) (fun tail2 => ?_)
        · obtain ⟨xe, hc, d1, d2, d3⟩ := hw3
          repeat trivial
          refine s_lcS ?_
          repeat trivial
          refine lc_txtF (fun c => !decide (48 ≤ c ∧ c ≤ 57)) (by omega) (fun c hc H3 Q' q => ?_) (fun c hc H3 Q' q => ?_) (fun D H3 hD x3 h3 => ?_)
          · repeat trivial
            refine s_notInS ?_
            repeat trivial
            rw [digits_in]
            exact q
          · repeat trivial
          repeat trivial
          refine ⟨sl rfl, fun p2 hp2 => ?_⟩
          have x4 := ext_new (o := .lst []) hp2
          have y4 : Ext H' _ := fun b o z => x4 _ _ (x3 _ _ (xe _ _ z))
          rw [e2] at h3
          have dp1 : Dp K _ (.ref D) (.list (((ds'.filter fun c => !decide (48 ≤ c ∧ c ≤ 57)).map fun c => (⟨#[c]⟩ : Str)).map PyData.str)) := .lst (SqL.of (x4 _ _ h3)) (by
            have z := dpStrs (K := K) (H := upd H3 p2 (.lst [])) (xs := (ds'.filter fun c => !decide (48 ≤ c ∧ c ≤ 57)).map fun c => (⟨#[c]⟩ : Str))
            rw [List.map_map] at z
            exact z)
          refine s_neD dp1 (dpE (SqL.of upd_same)) (shaped_strs _ fun x hx => ?_) rfl ?_
          · obtain ⟨c, hc', rfl⟩ := List.mem_map.mp hx
            intro c' hc''
            have z : c' = c := by simpa using hc''
            rw [z]
            exact ofg c (by rw [e2]; exact (List.mem_filter.mp hc').1)
          repeat trivial
          refine ite_b (fun e => ?_) (fun e => ?_)
          · repeat trivial
            refine hno (fun s' n hW => ?_) _ (jn y4)
            obtain ⟨_, hh⟩ := Wb s' n hW
            rcases hh with ⟨z, _⟩ | ⟨c1, ds1, z, g, _⟩
            · rw [hcd] at z; cases z
            · rw [hcd] at z; cases z
              have : (ds'.filter fun c => !decide (48 ≤ c ∧ c ≤ 57)) = [] := List.filter_eq_nil_iff.mpr fun c hc z => by
                rw [decide_eq_true (g.1 c hc)] at z; cases z
              rw [this] at e; cases e
          · have g : Good ds' := ⟨fun c hc => by
              have e' : (!PyData.eqv (.list (((ds'.filter fun c => !decide (48 ≤ c ∧ c ≤ 57)).map fun c => (⟨#[c]⟩ : Str)).map PyData.str)) (.list [])) = false := e
              cases q : ds'.filter fun c => !decide (48 ≤ c ∧ c ≤ 57) with
              | cons a l => rw [q] at e'; cases e'
              | nil =>
                have z := List.filter_eq_nil_iff.mp q c hc
                by_cases k : 48 ≤ c ∧ c ≤ 57
                · exact k
                · rw [decide_eq_false k] at z; exact absurd rfl z, d1, d2, d3⟩
            obtain ⟨m, hm', hl, hv⟩ := intText_signed hcd g hc
            repeat trivial
            refine s_intS hm' hl ?_
            repeat trivial
            refine ⟨sl rfl, fun p3 hp3 => ?_⟩
            have x5 := ext_new (o := .tup [.str s, .int m]) hp3
            exact hyes s m (W.of (by simpa using hm) hsp (.inr ⟨c0, ds', hcd, g, hv⟩)) p3 _ ((Up.of (M := []) (jn y4)).free hp3) (jn fun b o z => x5 _ _ (y4 _ _ z)) upd_same
        · have nW : ∀ {P : Prop}, (∀ n : Int, Good ds' → (c0 = 43 ∨ c0 = 45) → False) → ∀ s' n, ¬ W w s' n := fun hf s' n hW => by
            obtain ⟨_, hh⟩ := Wb s' n hW
            rcases hh with ⟨z, _⟩ | ⟨c1, ds1, z, g, hv⟩
            · rw [hcd] at z; cases z
            · rw [hcd] at z; cases z
              exact hf n g (hv.elim (fun z => .inl z.1) fun z => .inr z.1)
          repeat trivial
          refine s_slS (by omega) ?_
          repeat trivial
          refine ⟨sl rfl, fun p2 hp2 => ?_⟩
          have xp := ext_new (o := .tup [.str "+", .str "-"]) hp2
          refine s_notInT (xs := [("+" : Str), "-"].map V.str) (SqT.of upd_same) rfl rfl ?_
          repeat trivial
          rw [contains_of, pm_contains e1]
          refine ite_n (fun e => ?_) (fun e => ?_)
          · refine ite_t (α := Unit) ?_
            repeat trivial
            exact hno (nW (P := True) fun n g hc => of_decide_eq_false e hc) _ (jn xp)
          have hc := of_decide_eq_true e
          repeat trivial
          refine s_slS (by omega) ?_
          repeat trivial
          refine ⟨sl rfl, fun p3 hp3 => ?_⟩
          have xp3 := ext_new (o := .tup [.str "", .str "0"]) hp3
          have y3 : Ext H' _ := fun b o z => xp3 _ _ (xp _ _ z)
          refine s_inT (xs := [("" : Str), "0"].map V.str) (SqT.of upd_same) rfl rfl ?_
          repeat trivial
          rw [contains_of, zero_contains e3]
          refine ite_b (fun e => ?_) (fun e => ?_)
          · refine ite_t (α := Unit) ?_
            repeat trivial
            exact hno (nW (P := True) fun n g hc => by
              rcases of_decide_eq_true e with z | z
              · exact g.2.1 z
              · exact g.2.2.2 z) _ (jn y3)
          have e5 := of_decide_eq_false e
          repeat trivial
          refine s_lenS (by omega) ?_
          repeat trivial
          refine ite_b (fun e => ?_) (fun e => ?_)
          · repeat trivial
            refine hno (nW (P := True) fun n g hc => ?_) _ (jn y3)
            have := g.2.2.1
            have := of_decide_eq_true e
            omega
          · have e6 := of_decide_eq_false e
            exact tail2 () _ ⟨y3, hc, fun z => e5 (.inl z), by omega, fun z => e5 (.inr z)⟩
      · exact ⟨⟨_, _, _, _, rfl⟩, ex, stay (of_decide_eq_false e)⟩
    · repeat trivial
      refine s_lenS (by omega) ?_
      repeat trivial
      refine s_slS (by omega) ?_
      repeat trivial
      rw [dpre]
      refine ite_b (fun e => ?_) (fun e => ?_)
      · have et := of_decide_eq_true e
        repeat trivial
        refine ite_b (fun e => ?_) (fun e => ?_)
        · have er : rest = "" := by simpa using e
          have hsp : w.cps.toList = s.cps.toList ++ [] := by
            have : rest.cps.toList = [] := by rw [er]; decide +kernel
            rw [← this, erest, ← et, List.take_append_drop]
          repeat trivial
          refine ⟨sl rfl, fun p3 hp3 => ?_⟩
          have x5 := ext_new (o := .tup [.str s, .int 0]) hp3
          exact hyes s 0 (W.of (by simpa using hm) hsp (.inl ⟨rfl, rfl⟩)) p3 _ ((Up.of (M := []) x0).free hp3) (jn x5) upd_same
        · exact tail () _ ⟨rfl, fun z => absurd z.2 (by simpa using e)⟩
      · exact tail () _ ⟨rfl, fun z => of_decide_eq_false e z.1⟩
  · obtain ⟨⟨a, b, c, d, rfl⟩, ex, hno'⟩ := hp
    repeat trivial
    refine hno (fun s n hW => ?_) _ (fun b o z => ex _ _ (x1 _ _ z))
    obtain ⟨hm, ht⟩ := W_name hW
    obtain ⟨j, hj⟩ := List.getElem?_of_mem hm
    refine hno' j ?_ s hj ht
    rw [List.length_map]
    exact (List.getElem?_eq_some_iff.mp hj).1
theorem s_gPair {i j : Nat} {p : Addr} {x y : V} {σ : L2.St} {H : Hp} {Q : L2.St → Hp → Prop} (h : SqT K H p [x, y]) (q : Q ((σ.set i (some x)).set j (some y)) H) : gTup K 2 (gCons (gName i) (gCons (gName j) gNil)) (.ref p) σ H Q :=
  ⟨p, [x, y], rfl, h, rfl, x, [y], rfl, y, [], rfl, rfl, q⟩
section
variable {H : Hp} {a b : Addr} {Q : VK} {i n j m : Int}
theorem q_lt (ha : SqT K H a ([i, n].map V.int)) (hb : SqT K H b ([j, m].map V.int)) (q : Q (.bl (ltP (i, n) (j, m))) H) : rTlt K (.ref a) (.ref b) H Q := ⟨a, b, [i, n], [j, m], rfl, rfl, ha, hb, by
  have z : HT.lexLt [i, n] [j, m] = ltP (i, n) (j, m) := by
    unfold ltP HT.lexLt HT.lexLt HT.lexLt
    by_cases h1 : i = j
    · rw [if_pos h1, if_pos h1]
      by_cases h2 : n = m
      · rw [if_pos h2]; exact (decide_eq_false (by omega)).symm
      · rw [if_neg h2]
    · rw [if_neg h1, if_neg h1]
  rw [z]; exact q⟩
theorem q_le (ha : SqT K H a ([i, n].map V.int)) (hb : SqT K H b ([j, m].map V.int)) (q : Q (.bl (leP (i, n) (j, m))) H) : rTle K (.ref a) (.ref b) H Q := ⟨a, b, [i, n], [j, m], rfl, rfl, ha, hb, by
  show Q (.bl (Ob.lexAt _ _ true 0 2)) H
  rw [lex_pair]
  have z : (if decide (i = j) = true then (if decide (n = m) = true then true else decide (n ≤ m)) else decide (i ≤ j)) = leP (i, n) (j, m) := by
    unfold leP
    by_cases h1 : i = j <;> by_cases h2 : n = m <;> simp [h1, h2]
  exact z ▸ q⟩
theorem q_gt (ha : SqT K H a ([i, n].map V.int)) (hb : SqT K H b ([j, m].map V.int)) (q : Q (.bl (gtP (i, n) (j, m))) H) : rTgt K (.ref a) (.ref b) H Q := ⟨a, b, [i, n], [j, m], rfl, rfl, ha, hb, by
  show Q (.bl (Ob.lexAt _ _ false 0 2)) H
  rw [lex_pair]
  have z : (if decide (i = j) = true then (if decide (n = m) = true then false else decide (m < n)) else decide (j < i)) = gtP (i, n) (j, m) := by
    unfold gtP ltP
    by_cases h1 : i = j <;> by_cases h2 : n = m <;> simp [h1, h2, eq_comm]
  exact z ▸ q⟩
theorem q_ge (ha : SqT K H a ([i, n].map V.int)) (hb : SqT K H b ([j, m].map V.int)) (q : Q (.bl (geP (i, n) (j, m))) H) : rTge K (.ref a) (.ref b) H Q := ⟨a, b, [i, n], [j, m], rfl, rfl, ha, hb, by
  show Q (.bl (Ob.lexAt _ _ true 0 2)) H
  rw [lex_pair]
  have z : (if decide (i = j) = true then (if decide (n = m) = true then true else decide (m ≤ n)) else decide (j ≤ i)) = geP (i, n) (j, m) := by
    unfold geP leP
    by_cases h1 : i = j <;> by_cases h2 : n = m <;> simp [h1, h2, eq_comm]
  exact z ▸ q⟩
end
theorem s_ownCmp {f : Int × Int → Int × Int → Bool} {H : Hp} {a b : Addr} {s t : Str} {n m : Int} {Q : VK} {E : XK} (ha : SumAt C H a s n) (hb : SumAt C H b t m) (q : ∀ H', Ext H H' → Q (.bl (f (rankOf s, n) (rankOf t, m))) H') : rOwnCmp C (spCmp K C f) E (.ref a) (.ref b) H Q := by
  obtain ⟨_, dx, ea⟩ := id ha
  obtain ⟨_, dy, eb⟩ := id hb
  exact ⟨a, dx, _, b, dy, _, rfl, rfl, ea, eb, a, s, n, b, t, m, rfl, ha, hb, q⟩
theorem s_ownNe {f : Int × Int → Int × Int → Bool} {H : Hp} {a b : Addr} {s t : Str} {n m : Int} {Q : VK} {E : XK} (ha : SumAt C H a s n) (hb : SumAt C H b t m) (q : ∀ H', Ext H H' → Q (.bl (!f (rankOf s, n) (rankOf t, m))) H') : rOwnNe C (spCmp K C f) E (.ref a) (.ref b) H Q := by
  obtain ⟨_, dx, ea⟩ := id ha
  obtain ⟨_, dy, eb⟩ := id hb
  exact ⟨a, dx, _, b, dy, _, rfl, rfl, ea, eb, a, s, n, b, t, m, rfl, ha, hb, fun H' e => ⟨_, rfl, q H' e⟩⟩
theorem Row.ext {H H' : Hp} {x y : V} (h : Row K C H x y) (e : Ext H H') : Row K C H' x y := by
  obtain ⟨p, a, s, n, h1, h2, h3, h4⟩ := h
  exact ⟨p, a, s, n, h1, h2, e _ _ h3, h4.ext e⟩
theorem paired_at {α β : Type} {F : α → β → Prop} : ∀ {xs : List α} {ys : List β}, Paired F xs ys → ∀ {i : Nat} {x : α} {y : β}, xs[i]? = some x → ys[i]? = some y → F x y
  | _, _, .nil, i, x, y, h, _ => by cases h
  | _, _, .cons r t, 0, x, y, h, k => by cases h; cases k; exact r
  | _, _, .cons r t, i + 1, x, y, h, k => paired_at t h k
theorem paired_len {α β : Type} {F : α → β → Prop} : ∀ {xs : List α} {ys : List β}, Paired F xs ys → xs.length = ys.length
  | _, _, .nil => rfl
  | _, _, .cons _ t => congrArg Nat.succ (paired_len t)
theorem eqv_bools {a b c d e f : Bool} : PyData.eqv (.list [.bool a, .bool b, .bool c, .bool d, .bool e, .bool f]) (.list [.bool a, .bool b, .bool c, .bool d, .bool e, .bool f]) = true := by
  simp [PyData.eqv, PyData.eqvAll]
theorem rd_order (S : SumC K C) {vs : List V} {H : Hp} {Q : VK} {E : XK} (h : spOrder K C vs H Q E) : t__law_order_right K C { nx := fun _ H' => Q .non H', rt := Q } (start n__law_order_right vs) H := by
  obtain ⟨a, b, xs, ys, rfl, ha, hb, hl, hp, q⟩ := h
  unfold t__law_order_right
  with_reducible refine s_seqJ ?_
  refine s_forZ ?_
  repeat trivial
  have sa : ∀ {H'}, Ext H H' → SqL K H' a xs ∧ SqL K H' b ys := fun e => ⟨SqL.of (e _ _ ha), SqL.of (e _ _ hb)⟩
  refine forZ (fun i σ H' => (∃ c d e f g, σ = [some (.ref a), some (.ref b), c, d, e, f, g]) ∧ Ext H H') (paired_len hp) (SqL.of ha) (SqL.of hb) ⟨⟨_, _, _, _, _, rfl⟩, fun _ _ z => z⟩ (fun i σ H' _ h => sa h.2) (fun i x y p σ H1 hx hy hv hpn => ?_) (fun σ H1 hv => ?_)
  · obtain ⟨⟨c, d, e, f, g, rfl⟩, e1⟩ := hv
    have x1 := ext_new (o := .tup [x, y]) hpn
    refine s_gPair (SqT.of upd_same) ?_
    refine s_forZ ?_
    repeat trivial
    have e2 : Ext H _ := fun b o z => x1 _ _ (e1 _ _ z)
    obtain ⟨p1, a1, s1, n1, rfl, rfl, hp1, hs1⟩ := (paired_at hp hx hy)
    refine forZ (fun i σ H' => (∃ e f g, σ = [some (.ref a), some (.ref b), some (.ref p1), some (.ref a1), e, f, g]) ∧ Ext H H') (paired_len hp) (sa e2).1 (sa e2).2 ⟨⟨_, _, _, rfl⟩, e2⟩ (fun i σ H' _ h => sa h.2) (fun i x y p2 σ H2 hx hy hv hpn2 => ?_) (fun σ H1 hv => ?_)
    · obtain ⟨⟨e, f, g, rfl⟩, e3⟩ := hv
      have x2 := ext_new (o := .tup [x, y]) hpn2
      refine s_gPair (SqT.of upd_same) ?_
      have e4 : Ext H _ := fun b o z => x2 _ _ (e3 _ _ z)
      obtain ⟨p2', a2, s2, n2, rfl, rfl, hp2, hs2⟩ := (paired_at hp hx hy)
      revert e4
      generalize upd H2 p2 (.tup [V.ref p2', V.ref a2]) = H3
      intro e4
      repeat trivial
      refine s_ownCmp (hs1.ext e4) (hs2.ext e4) fun H4 y4 => ?_
      have e4 : Ext H H4 := fun b o z => y4 _ _ (e4 _ _ z)
      repeat trivial
      refine s_ownNe (hs1.ext e4) (hs2.ext e4) fun H5 y5 => ?_
      have e4 : Ext H H5 := fun b o z => y5 _ _ (e4 _ _ z)
      repeat trivial
      refine s_ownCmp (hs1.ext e4) (hs2.ext e4) fun H6 y6 => ?_
      have e4 : Ext H H6 := fun b o z => y6 _ _ (e4 _ _ z)
      repeat trivial
      refine s_ownCmp (hs1.ext e4) (hs2.ext e4) fun H7 y7 => ?_
      have e4 : Ext H H7 := fun b o z => y7 _ _ (e4 _ _ z)
      repeat trivial
      refine s_ownCmp (hs1.ext e4) (hs2.ext e4) fun H8 y8 => ?_
      have e4 : Ext H H8 := fun b o z => y8 _ _ (e4 _ _ z)
      repeat trivial
      refine s_ownCmp (hs1.ext e4) (hs2.ext e4) fun H9 y9 => ?_
      have e4 : Ext H H9 := fun b o z => y9 _ _ (e4 _ _ z)
      repeat trivial
      refine ⟨sl rfl, fun l hl => ?_⟩
      have x9 := ext_new (o := .lst [.bl (eqP (rankOf s1, n1) (rankOf s2, n2)), .bl (!eqP (rankOf s1, n1) (rankOf s2, n2)), .bl (ltP (rankOf s1, n1) (rankOf s2, n2)), .bl (leP (rankOf s1, n1) (rankOf s2, n2)), .bl (gtP (rankOf s1, n1) (rankOf s2, n2)), .bl (geP (rankOf s1, n1) (rankOf s2, n2))]) hl
      have e5 : Ext H _ := fun b o z => x9 _ _ (e4 _ _ z)
      have t1 : SqT K _ p1 ([rankOf s1, n1].map V.int) := SqT.of (e5 _ _ hp1)
      have t2 : SqT K _ p2' ([rankOf s2, n2].map V.int) := SqT.of (e5 _ _ hp2)
      repeat trivial
      refine s_eqD (dp_pair t1) (dp_pair t2) rfl rfl ?_
      repeat trivial
      refine s_neD (dp_pair t1) (dp_pair t2) rfl rfl ?_
      repeat trivial
      refine q_lt t1 t2 ?_
      repeat trivial
      refine q_le t1 t2 ?_
      repeat trivial
      refine q_gt t1 t2 ?_
      repeat trivial
      refine q_ge t1 t2 ?_
      repeat trivial
      refine ⟨sl rfl, fun l2 hl2 => ?_⟩
      rw [eq_pair]
      have xa := ext_new (o := .lst [.bl (eqP (rankOf s1, n1) (rankOf s2, n2)), .bl (!eqP (rankOf s1, n1) (rankOf s2, n2)), .bl (ltP (rankOf s1, n1) (rankOf s2, n2)), .bl (leP (rankOf s1, n1) (rankOf s2, n2)), .bl (gtP (rankOf s1, n1) (rankOf s2, n2)), .bl (geP (rankOf s1, n1) (rankOf s2, n2))]) hl2
      have dpl : ∀ {H' : Hp} {l : Addr} {a b c d e f : Bool}, H' l = some (.lst [.bl a, .bl b, .bl c, .bl d, .bl e, .bl f]) → Dp K H' (.ref l) (.list [.bool a, .bool b, .bool c, .bool d, .bool e, .bool f]) := fun h => .lst (SqL.of h) (.cons (.bl _) (.cons (.bl _) (.cons (.bl _) (.cons (.bl _) (.cons (.bl _) (.cons (.bl _) .nil))))))
      refine s_neD (dpl (xa _ _ upd_same)) (dpl upd_same) rfl rfl ?_
      rw [eqv_bools]
      repeat trivial
      refine ite_f ?_
      exact ⟨⟨_, _, _, rfl⟩, fun b o z => xa _ _ (e5 _ _ z)⟩
    · obtain ⟨⟨e, f, g, rfl⟩, e3⟩ := hv
      exact ⟨⟨_, _, _, _, _, rfl⟩, e3⟩
  · obtain ⟨⟨c, d, e, f, g, rfl⟩, e1⟩ := hv
    repeat trivial
    exact q _ e1
end
theorem ok__law_shown {P : Program} {w : World} {K : PySem.W.Frag} {mg : Str → Option Value} {base : Heap} {f : Addr} {fd : FuncData} {C : Addr} (S : SumC K C) (b_isinstance : mg "isinstance" = none) (g_Sum : ∃ u, mg "Sum" = some u ∧ RelV (.ref C) u) (b_str : mg "str" = none) (b_int : mg "int" = none) (b_bool : mg "bool" = none)
    (F : FunD K "_law_shown" "_law_shown" (defArgs s__law_shown) (defBody s__law_shown) (defScope s__law_shown) [] [] f fd) : FnOk P w K mg base (L2.CX P w) 2 f fd ["_law_one"] (spShown C) :=
  F.ok sc__law_shown (fun vs H Q E h => by obtain ⟨_, _, _, rfl, _⟩ := h; rfl) fun cdv A outer s H vs Q E hr h => ⟨t__law_shown K C, (tm__law_shown b_isinstance g_Sum b_str b_int b_bool hr).nox, rd_shown S h⟩

theorem ok__law_text {P : Program} {w : World} {K : PySem.W.Frag} {mg : Str → Option Value} {base : Heap} {f : Addr} {fd : FuncData} (b_str : mg "str" = none) (b_abs : mg "abs" = none)
    (F : FunD K "_law_text" "_law_text" (defArgs s__law_text) (defBody s__law_text) (defScope s__law_text) [] [] f fd) : FnOk P w K mg base (L2.CX P w) 2 f fd ["_law_source", "_law_number_here"] spText :=
  F.ok sc__law_text (fun vs H Q E h => by obtain ⟨_, _, rfl, _⟩ := h; rfl) fun cdv A outer s H vs Q E hr h => ⟨t__law_text K, (tm__law_text b_str b_abs hr).nox, rd_text h⟩

theorem ok__law_told {P : Program} {w : World} {K : PySem.W.Frag} {mg : Str → Option Value} {base : Heap} {f : Addr} {fd : FuncData} (b_len : mg "len" = none) (b_int : mg "int" = none)
    (F : FunD K "_law_told" "_law_told" (defArgs s__law_told) (defBody s__law_told) (defScope s__law_told) [] [] f fd) : FnOk P w K mg base (L2.CX P w) 2 f fd ["_law_word"] spTold :=
  F.ok sc__law_told (fun vs H Q E h => by obtain ⟨_, rfl, _⟩ := h; rfl) fun cdv A outer s H vs Q E hr h => ⟨t__law_told K, (tm__law_told b_len b_int hr).nox, rd_told h⟩

theorem ok__law_bent {P : Program} {w : World} {K : PySem.W.Frag} {mg : Str → Option Value} {base : Heap} {f : Addr} {fd : FuncData} (c__law_draw : Cl P w K mg base 2 "_law_draw" (spDraw K) []) (b_len : mg "len" = none) (c__law_pick : Cl P w K mg base 3 "_law_pick" (spPick K) [])
    (F : FunD K "_law_bent" "_law_bent" (defArgs s__law_bent) (defBody s__law_bent) (defScope s__law_bent) [] [] f fd) : FnOk P w K mg base (L2.CX P w) 4 f fd ["_law_pen_here", "_law_word"] (spBent K) :=
  F.ok sc__law_bent (fun vs H Q E h => by obtain ⟨_, _, _, rfl, _⟩ := h; rfl) fun cdv A outer s H vs Q E hr h => ⟨t__law_bent K, (tm__law_bent c__law_draw b_len c__law_pick hr).nox, rd_bent h⟩

theorem ok__law_order_right {P : Program} {w : World} {K : PySem.W.Frag} {mg : Str → Option Value} {base : Heap} {f : Addr} {fd : FuncData} {C : Addr} (S : SumC K C) (b_zip : mg "zip" = none) (o_Sum__ge__ : OM P w K mg base 2 C "__ge__" (spCmp K C geP)) (o_Sum__gt__ : OM P w K mg base 2 C "__gt__" (spCmp K C gtP)) (o_Sum__le__ : OM P w K mg base 2 C "__le__" (spCmp K C leP)) (o_Sum__lt__ : OM P w K mg base 2 C "__lt__" (spCmp K C ltP)) (o_Sum__eq__ : OM P w K mg base 2 C "__eq__" (spCmp K C eqP)) (n_Sum : PySem.W.findIn K (.ref C) "__ne__" = some (some (.builtin "object.__ne__"))) (m_Sum : PySem.W.mroIn K C (.type "object") = some true)
    (F : FunD K "_law_order_right" "_law_order_right" (defArgs s__law_order_right) (defBody s__law_order_right) (defScope s__law_order_right) [] [] f fd) : FnOk P w K mg base (L2.CX P w) 5 f fd ["_law_keys", "_law_some"] (spOrder K C) :=
  F.ok sc__law_order_right (fun vs H Q E h => by obtain ⟨_, _, _, _, rfl, _⟩ := h; rfl) fun cdv A outer s H vs Q E hr h => ⟨t__law_order_right K C, (tm__law_order_right b_zip o_Sum__ge__ o_Sum__gt__ o_Sum__le__ o_Sum__lt__ o_Sum__eq__ n_Sum m_Sum hr).nox, rd_order S h⟩

end K8
end
section
set_option linter.all false
set_option maxRecDepth 100000
set_option maxHeartbeats 4000000
open PySem PySem.Spec PyProof.Rows L2 Tk PySem.NumText
namespace K8
def okOff (K : PySem.W.Frag) (C : Addr) : List V → Hp → Prop := fun vs H => ∃ a s n y g, vs = [.ref a, y] ∧ SumAt C H a s n ∧ Is K H y g ∧ ∀ D, g ≠ .own D
/-- the tables and the pen, behind a check -/
def tabsAt (Ts : List (Addr × Str)) : List Addr := Ts.map (·.1)
def spValues (K : PySem.W.Frag) (C : Addr) (Ts : List (Addr × Str)) : Sp := fun vs H Q _ => ∃ (p : Pn) (a : Addr) (s : Str) (n : Int) (m : Nat), vs = [.ref p.p, .ref a, .str s, .int n] ∧ SumAt C H a s n ∧ PenAt K p (m + 100) H ∧ H p.l ≠ none ∧ LamX.Tabs Ts H ∧
  ∀ H', UpN [p.p] H H' → LamX.Tabs Ts H' → PenAt K p m H' → Q (.bl true) H'
def spRefused (K : PySem.W.Frag) (C : Addr) (Ts : List (Addr × Str)) : Sp := fun vs H Q _ => ∃ (p : Pn) (a : Addr) (s : Str) (n : Int) (m : Nat), vs = [.ref p.p, .ref a] ∧ SumAt C H a s n ∧ PenAt K p (m + 100) H ∧ H p.l ≠ none ∧ LamX.Tabs Ts H ∧
  ∀ H', UpN [p.p] H H' → LamX.Tabs Ts H' → PenAt K p m H' → Q (.bl true) H'
local macro_rules | `(tactic| trivial) => `(tactic| first
  | with_reducible refine s_seq ?_
  | with_reducible refine s_asg ?_
  | with_reducible refine s_op ?_
  | with_reducible refine s_c ?_
  | with_reducible refine s_name ?_
  | with_reducible refine s_cb ?_
  | with_reducible refine s_cons ?_
  | with_reducible refine s_nil ?_
  | with_reducible refine s_call ?_
  | with_reducible refine s_ret ?_
  | with_reducible refine s_ifS ?_
  | with_reducible refine s_test ?_
  | with_reducible refine s_B ?_
  | with_reducible refine s_kB ?_
  | with_reducible refine s_kI ?_
  | with_reducible refine s_addI ?_
  | with_reducible refine s_subI ?_
  | with_reducible refine s_ltI ?_
  | with_reducible refine s_leI ?_
  | with_reducible refine s_gtI ?_
  | with_reducible refine s_geI ?_
  | with_reducible refine s_int1 ?_
  | with_reducible refine s_intB ?_
  | with_reducible refine s_abs ?_
  | with_reducible refine s_eq rfl ?_
  | with_reducible refine s_ne rfl ?_
  | with_reducible refine s_isN ?_
  | with_reducible refine s_notN ?_
  | with_reducible refine s_un ?_
  | with_reducible refine s_unI ?_
  | with_reducible refine s_and ?_
  | with_reducible refine s_or ?_
  | with_reducible refine s_not ?_
  | with_reducible refine s_andV ?_
  | with_reducible refine s_orV ?_
  | with_reducible refine s_notV ?_
  | with_reducible refine s_if ?_
  | with_reducible refine s_tup ?_
  | with_reducible refine s_lst ?_
  | with_reducible refine s_fldT ?_
  | with_reducible refine s_drop ?_
  | with_reducible refine s_sl ?_
  | with_reducible refine s_none ?_
  | with_reducible refine s_some ?_
  | with_reducible refine s_sub ?_
  | with_reducible refine s_cval ?_
  | with_reducible refine s_bm ?_
  | with_reducible refine s_m1 ?_
  | with_reducible refine s_par ?_
  | with_reducible refine s_par3 ?_
  | with_reducible refine s_raise ?_
  | with_reducible refine s_sfld ?_
  | with_reducible refine s_make ?_
  | with_reducible refine s_dget ?_
  | with_reducible refine s_dget1 ?_
  | with_reducible refine s_js ?_
  | with_reducible refine s_jn ?_
  | with_reducible refine s_fmt ?_
  | with_reducible refine s_join _ ?_
  | with_reducible refine s_xfld ?_
  | with_reducible refine s_st ?_
  | with_reducible refine s_stK ?_
  | with_reducible refine s_mtK ?_
  | with_reducible refine s_mkKw ?_
  | with_reducible refine s_meth ?_
  | with_reducible refine s_next ?_
  | ((with_reducible refine s_var (v := ?_) ?_ ?_); rotate_left; focus rfl))
/-! _law_values_right, slots: 0 _law_pen_here, 1 _law_one, 2 _law_source, 3 _law_number_here, 4 _law_numbers, 5 _law_name, 6 _law_kept, 7 _law_worse, 8 _law_less, 9 _law_odd -/
abbrev s__law_values_right : Stmt := top 23
abbrev n__law_values_right : List Str := ["_law_pen_here", "_law_one", "_law_source", "_law_number_here", "_law_numbers", "_law_name", "_law_kept", "_law_worse", "_law_less", "_law_odd"]
theorem sc__law_values_right : FnScope n__law_values_right ["_law_pen_here", "_law_one", "_law_source", "_law_number_here"] (defScope s__law_values_right) := ⟨rfl, rfl, rfl, by decide +kernel, rfl, by decide +kernel, by decide +kernel⟩
def t__law_values_right (K : PySem.W.Frag) (C B T : Addr) (Ts : List (Addr × Str)) : TS :=
  (tSeq (tAsg (tCB (rDictP K) (tCons (tLc (iList K (tLst (tCons (tC (.str "s")) (tCons (tC (.str "p")) (tCons (tC (.str "o")) (tCons (tC (.str "z3")) (tCons (tC (.str "z2")) (tCons (tC (.str "z1")) (tCons (tC (.str "z0")) tNil))))))))) (gName 5) tYes (tTup (tCons (tVar 5) (tCons (tCall (spNumber K) [] E0 (tCons (tVar 0) tNil)) tNil))) [5]) tNil)) (gName 4))
    (tSeq (sDPut (tVar 4) (tC (.str "x")) (tC .non))
    (tSeq (tAsg (tCB (rDictP K) (tCons (LiI.tListItems (tVar 4)) tNil)) (gName 6))
    (tSeqJ (tIfS (tOr (tTest (tOp rNe (tMeth C "value_in" (spValue K B C) [] E0 (tVar 1) (tCons (tVar 4) tNil)) (tOp rAddI (tDGet (tVar 6) (tVar 2)) (tVar 3)))) (tTest (tOp rNeDA (tVar 4) (tVar 6))))
    (tRet (tC (.bl false)))
    tNext)
    (tSeq (tIfS (tTest (tOp rNe (tMtK C "value_in" 1 (spValue K B C) E0 (tVar 1) (tCons (tDisp [((tVar 2), (tC (.int 7)))]) tNil)) (tOp rAddI (tC (.int 7)) (tVar 3))))
    (tRet (tC (.bl false)))
    tNext)
    (tSeq (tAsg (tCB (rDictP K) (tCons (LiI.tListItems (tVar 6)) tNil)) (gName 7))
    (tSeq (sDPut (tVar 7) (tVar 2) (tCall (spPick K) [] E0 (tCons (tVar 0) (tCons (tLst (tCons (tC .non) (tCons (tC (.bl true)) (tCons (tC (.bl false)) (tCons (tC (.str "1")) (tCons (tLst (tCons (tC (.int 1)) tNil)) (tCons (tTup (tCons (tC (.int 1)) tNil)) (tCons (tVar 1) tNil)))))))) tNil))))
    (tSeq (tAsg (tCB (rDictP K) (tCons (tLockE (tLc (iKeys (tVar 6)) (gName 5) (tTest (tOp rNe (tVar 5) (tVar 2))) (tTup (tCons (tVar 5) (tCons (tDGet (tVar 6) (tVar 5)) tNil))) [5])) tNil)) (gName 8))
    (tSeq (tAsg (tCall (spPick K) [] E0 (tCons (tVar 0) (tCons (tLst (tCons (tC .non) (tCons (tC (.int 0)) (tCons (tC (.bl true)) (tCons (tC (.str "p")) (tCons (tLst tNil) (tCons (tTup tNil) (tCons (LiI.tListItems (tVar 6)) (tCons (tVar 1) (tCons tDNewK (tCons (tVar 8) (tCons (tVar 7) tNil)))))))))))) tNil))) (gName 9))
    (tRet (tOp (rEqD K) (LamX.tLam Ts (TTheard B T) fun E' => (tMeth C "value_in" (spValue K B C) [] E' (tVar 1) (tCons (tVar 9) tNil))) (tTup (tCons (tC (.str "sum")) (tCons (tC (.str "numbers")) tNil))))))))))))))
theorem tm__law_values_right {P : Program} {w : World} {K : PySem.W.Frag} {mg : Str → Option Value} {base : Heap} {f : Addr} {cdv : Value} {A : Around} {outer : List Env} {s : Shared} {H : Hp} {E : XK} {C B T : Addr} {Ts : List (Addr × Str)} (b_dict : mg "dict" = none) (c__law_number : Cl P w K mg base 3 "_law_number" (spNumber K) []) (b_list : mg "list" = none) (c_Sum_value_in : Mth P w K mg base 3 C "value_in" (spValue K B C) []) (c_Sum_value_in_K : MtK P w K mg base 3 C "value_in" (spValue K B C) ["numbers"]) (c__law_pick : Cl P w K mg base 3 "_law_pick" (spPick K) []) (h_heard : HeardF P w K mg B T) (hlam : LamF base mg cdv ((envOfC "_law_values_right" (defScope s__law_values_right) 0 0 cdv).qual ++ "<lambda>") Ts)
    (hr : Room 7 (A.deeper (envOfC "_law_values_right" (defScope s__law_values_right) s.heap.objs.size f cdv))) : PSs (cxOf (L2.CX P w) P w K mg base n__law_values_right "_law_values_right" (defScope s__law_values_right) f cdv A outer s H E).nox (defBody s__law_values_right) (t__law_values_right K C B T Ts) := by
  have hu := hu_of hr
  have hu1 := hr_u hr
  have hu64 := hr_u64 hr
  unfold t__law_values_right
  refine pss_cons ?_ ?_
  · exact (ps_set (i := 4) sc__law_values_right.nd rfl (by first | exact Or.inl (by rfl) | exact Or.inr (by rfl)) (pe_callTy (call_dictPN (by rfl)) (by rfl) b_dict (by decide +kernel) (pa_cons (pe_lc (own := [("_law_name", 5)]) (g := (gName 5)) (tt := tYes) rfl sc__law_values_right.nd (pi_list (pe_lst (pa_cons pe_str (pa_cons pe_str (pa_cons pe_str (pa_cons pe_str (pa_cons pe_str (pa_cons pe_str (pa_cons pe_str pa_nil))))))))) (blkOk_by (own := [("_law_name", 5)]) (N := n__law_values_right) (sc := defScope s__law_values_right) (by decide +kernel)) (fun _ _ _ _ _ => (pg_name (i := 5) sc__law_values_right.nd rfl (by first | exact Or.inl (by rfl) | exact Or.inr (by rfl)))) (fun _ _ _ _ _ => pts_nil) (fun _ _ _ _ _ => (pe_tup (pa_cons (pv 5) (pa_cons (pe_cl c__law_number hr (by decide) (by rfl) passL (pa_cons (pv 0) pa_nil)) pa_nil))))) pa_nil)))
  refine pss_cons ?_ ?_
  · exact (ps_dput hu (pv 4) pe_str pe_non rfl)
  refine pss_cons ?_ ?_
  · exact (ps_set (i := 6) sc__law_values_right.nd rfl (by first | exact Or.inl (by rfl) | exact Or.inr (by rfl)) (pe_callTy (call_dictPN (by rfl)) (by rfl) b_dict (by decide +kernel) (pa_cons (LiI.pe_listItems (by rfl) (pv 4) (by rfl) b_list (by decide +kernel)) pa_nil)))
  refine pss_consJ ?_ ?_
  · exact (ps_if (PW.pt (pw_or (pt_cmpR op_ne (pe_mth c_Sum_value_in hr (by decide) passL (pv 1) (pa_cons (pv 4) pa_nil)) (pe_op oAddI (pe_dget hu (pv 6) (pv 2) (fun _ _ => rfl)) (pv 3)) (nomark _)) (pw_or1 (pt_cmpR (op_ne_dictA hu1) (pv 4) (pv 6) (nomark _)))))
    (pss_one (ps_ret pe_bl))
    pss_nil)
  refine pss_cons ?_ ?_
  · exact (ps_if (pt_cmpR op_ne (pe_mtK (ks := ["numbers"]) c_Sum_value_in_K hr (by decide) passL (pv 1) (pk_cons (pe_disp (pps_cons (pv 2) pe_int pps_nil) (by rfl) (by rfl) (fun z => nomatch z) (Nat.le_of_ble_eq_true rfl)) pk_nil)) (pe_op oAddI pe_int (pv 3)) (nomark _))
    (pss_one (ps_ret pe_bl))
    pss_nil)
  refine pss_cons ?_ ?_
  · exact (ps_set (i := 7) sc__law_values_right.nd rfl (by first | exact Or.inl (by rfl) | exact Or.inr (by rfl)) (pe_callTy (call_dictPN (by rfl)) (by rfl) b_dict (by decide +kernel) (pa_cons (LiI.pe_listItems (by rfl) (pv 6) (by rfl) b_list (by decide +kernel)) pa_nil)))
  refine pss_cons ?_ ?_
  · exact (ps_dput hu (pv 7) (pv 2) (pe_cl c__law_pick hr (by decide) (by rfl) passL (pa_cons (pv 0) (pa_cons (pe_lst (pa_cons pe_non (pa_cons pe_bl (pa_cons pe_bl (pa_cons pe_str (pa_cons (pe_lst (pa_cons pe_int pa_nil)) (pa_cons (pe_tup (pa_cons pe_int pa_nil)) (pa_cons (pv 1) pa_nil)))))))) pa_nil))) rfl)
  refine pss_cons ?_ ?_
  · exact (ps_set (i := 8) sc__law_values_right.nd rfl (by first | exact Or.inl (by rfl) | exact Or.inr (by rfl)) (pe_callTy (call_dictPN (by rfl)) (by rfl) b_dict (by decide +kernel) (pa_cons (pe_lock (pe_lc (own := [("_law_name", 5)]) (g := (gName 5)) (tt := (tTest (tOp rNe (tVar 5) (tVar 2)))) (by rfl) sc__law_values_right.nd (pi_keys (pv 6)) (blkOk_by (own := [("_law_name", 5)]) (N := n__law_values_right) (sc := defScope s__law_values_right) (by decide +kernel)) (fun _ _ _ _ _ => (pg_name (i := 5) sc__law_values_right.nd rfl (by first | exact Or.inl (by rfl) | exact Or.inr (by rfl)))) (fun _ _ _ _ _ => (pts_one (pt_cmpR op_ne (pv 5) (pv 2) (nomark _)))) (fun _ _ _ _ _ => (pe_tup (pa_cons (pv 5) (pa_cons (pe_dget hu (pv 6) (pv 5) (fun _ _ => rfl)) pa_nil)))))) pa_nil)))
  refine pss_cons ?_ ?_
  · exact (ps_set (i := 9) sc__law_values_right.nd rfl (by first | exact Or.inl (by rfl) | exact Or.inr (by rfl)) (pe_cl c__law_pick hr (by decide) (by rfl) passL (pa_cons (pv 0) (pa_cons (pe_lst (pa_cons pe_non (pa_cons pe_int (pa_cons pe_bl (pa_cons pe_str (pa_cons (pe_lst pa_nil) (pa_cons (pe_tup pa_nil) (pa_cons (LiI.pe_listItems (by rfl) (pv 6) (by rfl) b_list (by decide +kernel)) (pa_cons (pv 1) (pa_cons pe_dnewK (pa_cons (pv 8) (pa_cons (pv 7) pa_nil)))))))))))) pa_nil))))
  exact (pss_one (ps_ret (pe_cmpR (op_eqD hu64) (pe_heard h_heard hlam (by rfl) hr (by rfl) (LamX.lamS_by (sc := defScope s__law_values_right) (by decide +kernel)) (by rfl) (fun _ _ _ _ _ => by rfl) (fun A' outer' s' H' E' f' c' hr => (pe_mth c_Sum_value_in hr (by decide) lam_pass (pv 1) (pa_cons (pv 9) pa_nil)))) (pe_tup (pa_cons pe_str (pa_cons pe_str pa_nil))) (nomark _))))

/-! _law_refused_right, slots: 0 _law_pen_here, 1 _law_one, 2 _law_bad, 3 _law_odd, 4 _law_far, 5 _law_heard_here, 6 _law_parts, 7 _law_part -/
abbrev s__law_refused_right : Stmt := top 24
abbrev n__law_refused_right : List Str := ["_law_pen_here", "_law_one", "_law_bad", "_law_odd", "_law_far", "_law_heard_here", "_law_parts", "_law_part"]
theorem sc__law_refused_right : FnScope n__law_refused_right ["_law_pen_here", "_law_one"] (defScope s__law_refused_right) := ⟨rfl, rfl, rfl, by decide +kernel, rfl, by decide +kernel, by decide +kernel⟩
def t__law_refused_right (K : PySem.W.Frag) (C B T : Addr) (Ts : List (Addr × Str)) : TS :=
  (tSeq (tAsg (tCall (spPick K) [] E0 (tCons (tVar 0) (tCons (tLst (tCons (tC .non) (tCons (tC (.int 0)) (tCons (tC (.bl true)) (tCons (tC (.str "")) (tCons (tC (.str "z")) (tCons (tC (.str "z4")) (tCons (tC (.str "x")) (tCons (tC (.str "P")) (tCons (tC (.str "p ")) (tCons (tC (.str "p+1")) (tCons (tLst (tCons (tC (.str "p")) tNil)) (tCons (tTup (tCons (tC (.str "p")) tNil)) (tCons (tDisp [((tC (.str "p")), (tC (.int 1)))]) (tCons (tVar 1) tNil))))))))))))))) tNil))) (gName 2))
    (tSeq (tAsg (tCall (spPick K) [] E0 (tCons (tVar 0) (tCons (tLst (tCons (tC .non) (tCons (tC (.bl true)) (tCons (tC (.bl false)) (tCons (tC (.str "1")) (tCons (tLst tNil) (tCons (tTup (tCons (tC (.int 1)) tNil)) (tCons tDNewK (tCons (tVar 1) tNil))))))))) tNil))) (gName 3))
    (tSeq (tAsg (tTup (tCons (tCall (spPick K) [] E0 (tCons (tVar 0) (tCons (tLst (tCons (tC .non) (tCons (tC (.int 0)) (tCons (tC (.str "p")) (tCons (tLst (tCons (tC (.str "p")) (tCons (tC (.int 0)) tNil))) (tCons (tTup (tCons (tC (.str "z0")) (tCons (tC (.int 5)) tNil))) (tCons tDNewK tNil))))))) tNil))) (tCons (tLst tNil) tNil))) (gTup K 2 (gCons (gName 4) (gCons (gName 5) gNil))))
    (tSeq (tDrop (tBM K "list" rAppend (tVar 5) (tCons (LamX.tLam Ts (TTheard B T) fun E' => (tMake C (spInit K B C) [.int 0] E' (tCons (tVar 2) tNil))) tNil)))
    (tSeq (tDrop (tBM K "list" rAppend (tVar 5) (tCons (LamX.tLam Ts (TTheard B T) fun E' => (tMake C (spInit K B C) [] E' (tCons (tVar 2) (tCons (tVar 3) tNil)))) tNil)))
    (tSeq (tDrop (tBM K "list" rAppend (tVar 5) (tCons (LamX.tLam Ts (TTheard B T) fun E' => (tMake C (spInit K B C) [] E' (tCons (tC (.str "z3")) (tCons (tVar 3) tNil)))) tNil)))
    (tSeq (tDrop (tBM K "list" rAppend (tVar 5) (tCons (LamX.tLam Ts (TTheard B T) fun E' => (tOp (rOwnBin K C (spAdd K B C fun i j => i + j) E') (tVar 1) (tVar 3))) tNil)))
    (tSeq (tDrop (tBM K "list" rAppend (tVar 5) (tCons (LamX.tLam Ts (TTheard B T) fun E' => (tOp (rOwnBin K C (spAdd K B C fun i j => i - j) E') (tVar 1) (tVar 3))) tNil)))
    (tSeq (tDrop (tBM K "list" rAppend (tVar 5) (tCons (LamX.tLam Ts (TTheard B T) fun E' => (tMeth C "apart" (spApart K B C) [] E' (tVar 1) (tCons (tVar 4) tNil))) tNil)))
    (tSeq (tAsg (tLst (tCons (tC (.str "source")) (tCons (tC (.str "source")) (tCons (tC (.str "number")) (tCons (tC (.str "number")) (tCons (tC (.str "number")) (tCons (tC (.str "other")) tNil))))))) (gName 6))
    (tRet (tOp (rEqD K) (tVar 5) (tLc (iList K (tVar 6)) (gName 7) tYes (tTup (tCons (tC (.str "sum")) (tCons (tVar 7) tNil))) [7])))))))))))))
theorem tm__law_refused_right {P : Program} {w : World} {K : PySem.W.Frag} {mg : Str → Option Value} {base : Heap} {f : Addr} {cdv : Value} {A : Around} {outer : List Env} {s : Shared} {H : Hp} {E : XK} {C B T : Addr} {Ts : List (Addr × Str)} (c__law_pick : Cl P w K mg base 3 "_law_pick" (spPick K) []) (h_heard : HeardF P w K mg B T) (m_Sum1 : Mkr P w K mg base 3 "Sum" C (spInit K B C) [.int 0]) (m_Sum2 : Mkr P w K mg base 3 "Sum" C (spInit K B C) []) (o_Sum_Add : OM P w K mg base 5 C "__add__" (spAdd K B C fun i j => i + j)) (b_Sum_Add : OwnBin K C "add") (o_Sum_Sub : OM P w K mg base 5 C "__sub__" (spAdd K B C fun i j => i - j)) (b_Sum_Sub : OwnBin K C "sub") (c_Sum_apart : Mth P w K mg base 2 C "apart" (spApart K B C) []) (hlam : LamF base mg cdv ((envOfC "_law_refused_right" (defScope s__law_refused_right) 0 0 cdv).qual ++ "<lambda>") Ts)
    (hr : Room 7 (A.deeper (envOfC "_law_refused_right" (defScope s__law_refused_right) s.heap.objs.size f cdv))) : PSs (cxOf (L2.CX P w) P w K mg base n__law_refused_right "_law_refused_right" (defScope s__law_refused_right) f cdv A outer s H E).nox (defBody s__law_refused_right) (t__law_refused_right K C B T Ts) := by
  have hu64 := hr_u64 hr
  unfold t__law_refused_right
  refine pss_cons ?_ ?_
  · exact (ps_set (i := 2) sc__law_refused_right.nd rfl (by first | exact Or.inl (by rfl) | exact Or.inr (by rfl)) (pe_cl c__law_pick hr (by decide) (by rfl) passL (pa_cons (pv 0) (pa_cons (pe_lst (pa_cons pe_non (pa_cons pe_int (pa_cons pe_bl (pa_cons pe_str (pa_cons pe_str (pa_cons pe_str (pa_cons pe_str (pa_cons pe_str (pa_cons pe_str (pa_cons pe_str (pa_cons (pe_lst (pa_cons pe_str pa_nil)) (pa_cons (pe_tup (pa_cons pe_str pa_nil)) (pa_cons (pe_disp (pps_cons pe_str pe_int pps_nil) (by rfl) (by rfl) (fun z => nomatch z) (Nat.le_of_ble_eq_true rfl)) (pa_cons (pv 1) pa_nil))))))))))))))) pa_nil))))
  refine pss_cons ?_ ?_
  · exact (ps_set (i := 3) sc__law_refused_right.nd rfl (by first | exact Or.inl (by rfl) | exact Or.inr (by rfl)) (pe_cl c__law_pick hr (by decide) (by rfl) passL (pa_cons (pv 0) (pa_cons (pe_lst (pa_cons pe_non (pa_cons pe_bl (pa_cons pe_bl (pa_cons pe_str (pa_cons (pe_lst pa_nil) (pa_cons (pe_tup (pa_cons pe_int pa_nil)) (pa_cons pe_dnewK (pa_cons (pv 1) pa_nil))))))))) pa_nil))))
  refine pss_cons ?_ ?_
  · exact (ps_asg (pe_tup (pa_cons (pe_cl c__law_pick hr (by decide) (by rfl) passL (pa_cons (pv 0) (pa_cons (pe_lst (pa_cons pe_non (pa_cons pe_int (pa_cons pe_str (pa_cons (pe_lst (pa_cons pe_str (pa_cons pe_int pa_nil))) (pa_cons (pe_tup (pa_cons pe_str (pa_cons pe_int pa_nil))) (pa_cons pe_dnewK pa_nil))))))) pa_nil))) (pa_cons (pe_lst pa_nil) pa_nil))) (pg_tup rfl (pgs_cons (pg_name (i := 4) sc__law_refused_right.nd rfl (by first | exact Or.inl (by rfl) | exact Or.inr (by rfl))) (pgs_cons (pg_name (i := 5) sc__law_refused_right.nd rfl (by first | exact Or.inl (by rfl) | exact Or.inr (by rfl))) pgs_nil))))
  refine pss_cons ?_ ?_
  · exact (ps_expr (pe_bm PySem.F.plainAttrs_list PySem.F.slot_list_append PySem.F.type_list_append mt_append (pv 5) (pa_cons (pe_heard h_heard hlam (by rfl) hr (by rfl) (LamX.lamS_by (sc := defScope s__law_refused_right) (by decide +kernel)) (by rfl) (fun _ _ _ _ _ => by rfl) (fun A' outer' s' H' E' f' c' hr => (pe_mkr m_Sum1 hr (by decide) (by rfl) lam_pass (pa_cons (pv 2) pa_nil)))) pa_nil)))
  refine pss_cons ?_ ?_
  · exact (ps_expr (pe_bm PySem.F.plainAttrs_list PySem.F.slot_list_append PySem.F.type_list_append mt_append (pv 5) (pa_cons (pe_heard h_heard hlam (by rfl) hr (by rfl) (LamX.lamS_by (sc := defScope s__law_refused_right) (by decide +kernel)) (by rfl) (fun _ _ _ _ _ => by rfl) (fun A' outer' s' H' E' f' c' hr => (pe_mkr m_Sum2 hr (by decide) (by rfl) lam_pass (pa_cons (pv 2) (pa_cons (pv 3) pa_nil))))) pa_nil)))
  refine pss_cons ?_ ?_
  · exact (ps_expr (pe_bm PySem.F.plainAttrs_list PySem.F.slot_list_append PySem.F.type_list_append mt_append (pv 5) (pa_cons (pe_heard h_heard hlam (by rfl) hr (by rfl) (LamX.lamS_by (sc := defScope s__law_refused_right) (by decide +kernel)) (by rfl) (fun _ _ _ _ _ => by rfl) (fun A' outer' s' H' E' f' c' hr => (pe_mkr m_Sum2 hr (by decide) (by rfl) lam_pass (pa_cons pe_str (pa_cons (pv 3) pa_nil))))) pa_nil)))
  refine pss_cons ?_ ?_
  · exact (ps_expr (pe_bm PySem.F.plainAttrs_list PySem.F.slot_list_append PySem.F.type_list_append mt_append (pv 5) (pa_cons (pe_heard h_heard hlam (by rfl) hr (by rfl) (LamX.lamS_by (sc := defScope s__law_refused_right) (by decide +kernel)) (by rfl) (fun _ _ _ _ _ => by rfl) (fun A' outer' s' H' E' f' c' hr => (pe_op (oOwnBin o_Sum_Add b_Sum_Add hr (by decide) lam_pass) (pv 1) (pv 3)))) pa_nil)))
  refine pss_cons ?_ ?_
  · exact (ps_expr (pe_bm PySem.F.plainAttrs_list PySem.F.slot_list_append PySem.F.type_list_append mt_append (pv 5) (pa_cons (pe_heard h_heard hlam (by rfl) hr (by rfl) (LamX.lamS_by (sc := defScope s__law_refused_right) (by decide +kernel)) (by rfl) (fun _ _ _ _ _ => by rfl) (fun A' outer' s' H' E' f' c' hr => (pe_op (oOwnBin o_Sum_Sub b_Sum_Sub hr (by decide) lam_pass) (pv 1) (pv 3)))) pa_nil)))
  refine pss_cons ?_ ?_
  · exact (ps_expr (pe_bm PySem.F.plainAttrs_list PySem.F.slot_list_append PySem.F.type_list_append mt_append (pv 5) (pa_cons (pe_heard h_heard hlam (by rfl) hr (by rfl) (LamX.lamS_by (sc := defScope s__law_refused_right) (by decide +kernel)) (by rfl) (fun _ _ _ _ _ => by rfl) (fun A' outer' s' H' E' f' c' hr => (pe_mth c_Sum_apart hr (by decide) lam_pass (pv 1) (pa_cons (pv 4) pa_nil)))) pa_nil)))
  refine pss_cons ?_ ?_
  · exact (ps_set (i := 6) sc__law_refused_right.nd rfl (by first | exact Or.inl (by rfl) | exact Or.inr (by rfl)) (pe_lst (pa_cons pe_str (pa_cons pe_str (pa_cons pe_str (pa_cons pe_str (pa_cons pe_str (pa_cons pe_str pa_nil))))))))
  exact (pss_one (ps_ret (pe_cmpR (op_eqD hu64) (pv 5) (pe_lc (own := [("_law_part", 7)]) (g := (gName 7)) (tt := tYes) rfl sc__law_refused_right.nd (pi_list (pv 6)) (blkOk_by (own := [("_law_part", 7)]) (N := n__law_refused_right) (sc := defScope s__law_refused_right) (by decide +kernel)) (fun _ _ _ _ _ => (pg_name (i := 7) sc__law_refused_right.nd rfl (by first | exact Or.inl (by rfl) | exact Or.inr (by rfl)))) (fun _ _ _ _ _ => pts_nil) (fun _ _ _ _ _ => (pe_tup (pa_cons pe_str (pa_cons (pv 7) pa_nil))))) (nomark _))))

/-! ### refused_right -/
section
variable {K : PySem.W.Frag} {C B T : Addr} {Ts : List (Addr × Str)}
def offN (M : List Addr) (H : Hp) : Hp := fun a => if a ∈ M then none else match H a with
  | some (.tbl _) => none
  | o => o
theorem offN_get {M : List Addr} {H : Hp} {a : Addr} {o : HO} (e : offN M H a = some o) : a ∉ M ∧ H a = some o ∧ ∀ ps, o ≠ .tbl ps := by
  unfold offN at e
  split at e
  · cases e
  · rename_i h
    split at e
    · cases e
    · rename_i h2
      exact ⟨h, e, fun ps z => h2 ps (by rw [e, z])⟩
theorem offN_at {M : List Addr} {H : Hp} {a : Addr} {o : HO} (n : a ∉ M) (e : H a = some o) (t : ∀ ps, o ≠ .tbl ps) : offN M H a = some o := by
  unfold offN
  rw [if_neg n, e]
  split
  · rename_i h; cases h; exact absurd rfl (t _)
  · rfl
theorem offN_le {M : List Addr} {H : Hp} : Ext (offN M H) H := fun _ _ e => (offN_get e).2.1
theorem offN_up {M : List Addr} {H H' : Hp} (u : UpN M H H') : Ext (offN M H) (offN M H') := fun a o e => by
  obtain ⟨n, h, t⟩ := offN_get e
  exact offN_at n (u a o n h t) t
/-- what a raised BadSum gives the ear -/
theorem raise_bad {part : Str} {H : Hp} {Q : VK} (k : ∀ t H3, H t = none → Ext H H3 → H3 t = some (.tup [.str "sum", .str part]) → Q (.ref t) H3) : badSum B part H (heardE B T Q) := fun d hd =>
  .inl ⟨rfl, d, .str part, rfl, upd_same, fun p H2 np e h => k p H2 ((Up.of (M := []) (ext_new hd)).free np) (fun b o z => e _ _ (ext_new hd _ _ z)) h⟩
/-- what holds between the appends -/
structure RS (K : PySem.W.Frag) (Ts : List (Addr × Str)) (p : Pn) (H0 : Hp) (hl : Addr) (F : List (V × Tag)) (n : Nat) (outs : List Addr) (parts : List Str) (H : Hp) : Prop where
  pen : PenAt K p n H
  tabs : LamX.Tabs Ts H
  up : UpN [p.p] H0 H
  new : H0 hl = none
  lst : H hl = some (.lst (outs.map V.ref))
  few : outs.length ≤ 100
  ne1 : hl ≠ p.p
  ne2 : hl ≠ p.l
  is_ : ∀ q ∈ F, Is K (offN [p.p, hl] H) q.1 q.2
  tup : Paired (fun t part => H t = some (.tup [.str "sum", .str part])) outs parts
theorem RS.lam {p : Pn} {H0 H H1 : Hp} {hl : Addr} {F : List (V × Tag)} {n : Nat} {outs : List Addr} {parts : List Str} (S : RS K Ts p H0 hl F n outs parts H) (e : LamX.ExtN H H1) (t : LamX.Tabs Ts H1) : RS K Ts p H0 hl F n outs parts H1 := by
  refine ⟨?_, t, S.up.trans (UpN.ofN e), S.new, e _ _ S.lst (fun _ z => nomatch z), S.few, S.ne1, S.ne2, fun q hq => (S.is_ q hq).ext (offN_up (UpN.ofN e)), ?_⟩
  · obtain ⟨i, g, k1, k2, k3, h4, h5, h6⟩ := S.pen.at_
    refine ⟨i, g, e _ _ k1 (fun _ z => nomatch z), k2, ?_, h4, h5, h6⟩
    rcases k3 with (k3 | ⟨o, k3⟩) | k3
    · obtain ⟨a1, a2⟩ := off_get k3
      exact .inl (.inl (off_at a1 (e _ _ a2 (fun _ z => nomatch z))))
    · obtain ⟨a1, a2⟩ := off_get k3
      exact .inl (.inr ⟨o, off_at a1 (e _ _ a2 (fun _ z => nomatch z))⟩)
    · exact .inr k3
  · have : ∀ {os : List Addr} {ps : List Str}, Paired (fun t part => H t = some (.tup [.str "sum", .str part])) os ps → Paired (fun t part => H1 t = some (.tup [.str "sum", .str part])) os ps := fun h => by
      induction h with
      | nil => exact .nil
      | cons r _ ih => exact .cons (e _ _ r (fun _ z => nomatch z)) ih
    exact this S.tup
theorem RS.add {p : Pn} {H0 H H1 : Hp} {hl t : Addr} {F : List (V × Tag)} {n : Nat} {outs : List Addr} {parts : List Str} {part : Str} (S : RS K Ts p H0 hl F n outs parts H) (e : Ext H H1) (ht : H1 t = some (.tup [.str "sum", .str part])) (hf : outs.length < 50) :
    RS K Ts p H0 hl F n (outs ++ [t]) (parts ++ [part]) (upd H1 hl (.lst ((outs ++ [t]).map V.ref))) := by
  have u1 : UpN [p.p] H0 H1 := S.up.trans (UpN.of e)
  have e1 : Ext (offN [p.p, hl] H) (offN [p.p, hl] (upd H1 hl (.lst ((outs ++ [t]).map V.ref)))) := offN_up ((UpN.of e).trans (upN_at (p := hl) (by simp)))
  have nt : ∀ {b : Addr} {xs : List V}, H1 b = some (.tup xs) → b ≠ hl := fun hb z => by
    have := e _ _ S.lst
    rw [z, this] at hb; cases hb
  refine ⟨(S.pen.ext e).keep S.ne1 S.ne2, fun q hq => ?_, ?_, S.new, upd_same, by rw [List.length_append]; have := S.few; simp; omega, S.ne1, S.ne2, fun q hq => (S.is_ q hq).ext e1, ?_⟩
  · have := tabs_up (M := [hl]) (S.tabs.ext e) (up_at (p := hl) (o := .lst ((outs ++ [t]).map V.ref)) (by simp)) (fun m hm => by rw [List.mem_singleton.mp hm]; exact ⟨_, e _ _ S.lst⟩)
    exact this q hq
  · intro b o nb hb tb
    rw [upd_ne (fun z => by rw [z, S.new] at hb; cases hb)]
    exact u1 b o nb hb tb
  · have go : ∀ {os : List Addr} {ps : List Str}, Paired (fun t part => H t = some (.tup [.str "sum", .str part])) os ps → Paired (fun b part => upd H1 hl (.lst ((outs ++ [t]).map V.ref)) b = some (.tup [.str "sum", .str part])) (os ++ [t]) (ps ++ [part]) := fun h => by
      induction h with
      | nil => exact .cons (by rw [upd_ne (nt ht)]; exact ht) .nil
      | cons r _ ih => exact .cons (by rw [upd_ne (nt (e _ _ r))]; exact e _ _ r) ih
    exact go S.tup
theorem app_step {p : Pn} {H0 H : Hp} {hl : Addr} {F : List (V × Tag)} {n : Nat} {outs : List Addr} {parts : List Str} {σ : L2.St} {D : Ends} {t : XK → TE} (part : Str) (S : RS K Ts p H0 hl F n outs parts H) (hf : outs.length < 50) (h5 : σ[5]? = some (some (.ref hl)))
    (body : ∀ H1, RS K Ts p H0 hl F n outs parts H1 → ∀ (Q' : VK) (Q2 : VK), (∀ u H3, H1 u = none → Ext H1 H3 → H3 u = some (.tup [.str "sum", .str part]) → Q' (.ref u) H3) → t (heardE B T Q') σ H1 Q2)
    (k : ∀ H4 u, RS K Ts p H0 hl F n (outs ++ [u]) (parts ++ [part]) H4 → D.nx σ H4) : tDrop (tBM K "list" rAppend (tVar 5) (tCons (LamX.tLam Ts (TTheard B T) t) tNil)) D σ H := by
  refine s_drop ?_
  refine s_bm ?_
  refine s_var h5 ?_
  refine ⟨.inl ⟨rfl, _, SqL.of S.lst⟩, ?_⟩
  refine s_cons ?_
  refine s_lam S.tabs fun H1 eN T1 => ?_
  have S1 := S.lam eN T1
  refine body H1 S1 _ _ fun u H3 nu e3 h3 => ?_
  refine s_nil ?_
  refine ⟨hl, _, _, rfl, rfl, e3 _ _ S1.lst, ?_, ?_⟩
  · have := S.few
    have z : (1000 : Nat) ≤ sizeLine := by decide
    rw [List.length_map]; omega
  · have := S1.add e3 h3 hf
    rw [List.map_append] at this
    exact k _ u this
theorem sl2 {n : Nat} (h : n.ble 1000000 = true) : n ≤ 1000000 := Nat.le_of_ble_eq_true h
theorem s_disp1 {tk tv : TE} {σ : L2.St} {H : Hp} {Q : VK} (q : ∀ p, H p = none → tk σ (upd H p (.dK [])) fun x H1 => tv σ H1 fun y H2 => H2 p = some (.dK []) ∧ ∃ kvs : List (Key × V), [(x, y)] = kvs.map (fun kv => (kV kv.1, kv.2)) ∧ kvs.length ≤ 15 ∧ Q (.ref p) (upd H2 p (.dK (mergeK [] kvs)))) : tDisp [(tk, tv)] σ H Q := q
theorem s_dnew {σ : L2.St} {H : Hp} {Q : VK} (q : ∀ p, H p = none → Q (.ref p) (upd H p (.dK []))) : tDNewK σ H Q := q
theorem isN {M : List Addr} {H : Hp} {x : V} {g : Tag} (h : Is K H x g) (n : ∀ a, x = .ref a → a ∉ M) : Is K (offN M H) x g := by
  cases h with
  | non => exact .non
  | bl b => exact .bl b
  | int i => exact .int i
  | str x => exact .str x
  | lst q => exact .lst (offN_at (n _ rfl) q (fun _ z => nomatch z))
  | tup q => exact .tup (offN_at (n _ rfl) q (fun _ z => nomatch z))
  | dct q => exact .dct (offN_at (n _ rfl) q (fun _ z => nomatch z))
  | own q c => exact .own (offN_at (n _ rfl) q (fun _ z => nomatch z)) c
theorem lift_is {p : Pn} {HF H1 : Hp} {x : V} {g : Tag} (u : Up [p.p] HF H1) (h : Is K HF x g) (n : ∀ b, x = .ref b → b ∉ [p.p]) : Is K (offN [p.p] H1) x g := (isN h n).ext (offN_up u.toN)
theorem rd_refused (S : SumC K C) {vs : List V} {H : Hp} {Q : VK} {E : XK} (h : spRefused K C Ts vs H Q E) : t__law_refused_right K C B T Ts { nx := fun _ H' => Q .non H', rt := Q } (start n__law_refused_right vs) H := by
  obtain ⟨p, a, s, n, m, rfl, ha, hp, hpl, hT, q⟩ := h
  have ane : ∀ {H' : Hp} {k : Nat}, PenAt K p k H' → SumAt C H' a s n → a ≠ p.p := fun h1 h2 z => by
    obtain ⟨i, g, k1, _⟩ := h1.at_
    obtain ⟨_, dx, k2⟩ := h2
    rw [z, k1] at k2; cases k2
  unfold t__law_refused_right
  repeat trivial
  refine ⟨sl rfl, fun q1 h1 => ?_⟩
  have x1 := ext_new (o := .lst [.str "p"]) h1
  repeat trivial
  refine ⟨sl rfl, fun q2 h2 => ?_⟩
  have x2 := ext_new (o := .tup [.str "p"]) h2
  repeat trivial
  refine s_disp1 fun q3 h3 => ?_
  have x3 := ext_new (o := .dK []) h3
  repeat trivial
  refine ⟨upd_same, [(.inr "p", .int 1)], rfl, by decide, ?_⟩
  rw [upd_upd]
  have x3 := ext_new (o := .dK (mergeK [] [(.inr "p", .int 1)])) h3
  repeat trivial
  refine ⟨sl rfl, fun l hl => ?_⟩
  have y3 : Ext H _ := fun b o z => x3 _ _ (x2 _ _ (x1 _ _ z))
  repeat trivial
  refine s_pick (p := p) (n := m + 99) hl (by simp) (sl2 rfl) (hp.ext y3) fun bad H1 hbad u1 hp1 => ?_
  have n1 : q1 ≠ p.p := hp.ne h1
  have n2 : q2 ≠ p.p := (hp.ext x1).ne h2
  have n3 : q3 ≠ p.p := ((hp.ext x1).ext x2).ne h3
  have hb : ∃ g, Is K (offN [p.p] H1) bad g ∧ srcOk bad = false := by
    simp only [List.mem_cons, List.not_mem_nil, or_false] at hbad
    rcases hbad with rfl | rfl | rfl | rfl | rfl | rfl | rfl | rfl | rfl | rfl | rfl | rfl | rfl | rfl
    · exact ⟨_, lift_is u1 (.non) (fun _ z => nomatch z), rfl⟩
    · exact ⟨_, lift_is u1 (.int _) (fun _ z => nomatch z), rfl⟩
    · exact ⟨_, lift_is u1 (.bl _) (fun _ z => nomatch z), rfl⟩
    · exact ⟨_, lift_is u1 (.str _) (fun _ z => nomatch z), by decide +kernel⟩
    · exact ⟨_, lift_is u1 (.str _) (fun _ z => nomatch z), by decide +kernel⟩
    · exact ⟨_, lift_is u1 (.str _) (fun _ z => nomatch z), by decide +kernel⟩
    · exact ⟨_, lift_is u1 (.str _) (fun _ z => nomatch z), by decide +kernel⟩
    · exact ⟨_, lift_is u1 (.str _) (fun _ z => nomatch z), by decide +kernel⟩
    · exact ⟨_, lift_is u1 (.str _) (fun _ z => nomatch z), by decide +kernel⟩
    · exact ⟨_, lift_is u1 (.str _) (fun _ z => nomatch z), by decide +kernel⟩
    · exact ⟨_, lift_is u1 (.lst (x3 _ _ (x2 _ _ upd_same))) (fun b z => by cases z; simpa using n1), rfl⟩
    · exact ⟨_, lift_is u1 (.tup (x3 _ _ upd_same)) (fun b z => by cases z; simpa using n2), rfl⟩
    · exact ⟨_, lift_is u1 (.dct upd_same) (fun b z => by cases z; simpa using n3), rfl⟩
    · exact ⟨_, lift_is u1 ((ha.is S).ext y3) (fun b z => by cases z; simpa using ane hp ha), rfl⟩
  have up1 : Up [p.p] H H1 := (Up.of y3).trans u1
  have hs : ∀ {H' : Hp} {k : Nat}, Up [p.p] H H' → PenAt K p k H' → SumAt C H' a s n := fun u _ => ⟨ha.1, ha.2.elim fun dx e => ⟨dx, u _ _ (by simpa using ane hp ha) e⟩⟩
  have ha1 := hs up1 hp1
  repeat trivial
  refine ⟨sl rfl, fun q1 h1 => ?_⟩
  have x1 := ext_new (o := .lst []) h1
  repeat trivial
  refine ⟨sl rfl, fun q2 h2 => ?_⟩
  have x2 := ext_new (o := .tup [.int 1]) h2
  repeat trivial
  refine s_dnew fun q3 h3 => ?_
  have x3 := ext_new (o := .dK []) h3
  repeat trivial
  refine ⟨sl rfl, fun l hl => ?_⟩
  have y3 : Ext H1 _ := fun b o z => x3 _ _ (x2 _ _ (x1 _ _ z))
  repeat trivial
  refine s_pick (p := p) (n := m + 98) hl (by simp) (sl2 rfl) (hp1.ext y3) fun odd H2 hodd u2 hp2 => ?_
  have n1 : q1 ≠ p.p := hp1.ne h1
  have n2 : q2 ≠ p.p := (hp1.ext x1).ne h2
  have n3 : q3 ≠ p.p := ((hp1.ext x1).ext x2).ne h3
  have ho : ∃ g, Is K (offN [p.p] H2) odd g ∧ isInt odd = false ∧ (∀ D, g = .own D → D = C) := by
    simp only [List.mem_cons, List.not_mem_nil, or_false] at hodd
    rcases hodd with rfl | rfl | rfl | rfl | rfl | rfl | rfl | rfl
    · exact ⟨_, lift_is u2 (.non) (fun _ z => nomatch z), rfl, (fun _ z => nomatch z)⟩
    · exact ⟨_, lift_is u2 (.bl _) (fun _ z => nomatch z), rfl, (fun _ z => nomatch z)⟩
    · exact ⟨_, lift_is u2 (.bl _) (fun _ z => nomatch z), rfl, (fun _ z => nomatch z)⟩
    · exact ⟨_, lift_is u2 (.str _) (fun _ z => nomatch z), rfl, (fun _ z => nomatch z)⟩
    · exact ⟨_, lift_is u2 (.lst (x3 _ _ (x2 _ _ upd_same))) (fun b z => by cases z; simpa using n1), rfl, (fun _ z => nomatch z)⟩
    · exact ⟨_, lift_is u2 (.tup (x3 _ _ upd_same)) (fun b z => by cases z; simpa using n2), rfl, (fun _ z => nomatch z)⟩
    · exact ⟨_, lift_is u2 (.dct upd_same) (fun b z => by cases z; simpa using n3), rfl, (fun _ z => nomatch z)⟩
    · exact ⟨_, lift_is u2 ((ha1.is S).ext y3) (fun b z => by cases z; simpa using ane hp ha), rfl, fun D z => by cases z; rfl⟩
  have up2 : Up [p.p] H H2 := up1.trans ((Up.of y3).trans u2)
  have hb2 : ∃ g, Is K (offN [p.p] H2) bad g ∧ srcOk bad = false := hb.elim fun g k => ⟨g, k.1.ext (offN_up (((Up.of y3).trans u2).toN)), k.2⟩
  repeat trivial
  refine ⟨sl rfl, fun q1 h1 => ?_⟩
  have x1 := ext_new (o := .lst [.str "p", .int 0]) h1
  repeat trivial
  refine ⟨sl rfl, fun q2 h2 => ?_⟩
  have x2 := ext_new (o := .tup [.str "z0", .int 5]) h2
  repeat trivial
  refine s_dnew fun q3 h3 => ?_
  have x3 := ext_new (o := .dK []) h3
  repeat trivial
  refine ⟨sl rfl, fun l hl => ?_⟩
  have y3 : Ext H2 _ := fun b o z => x3 _ _ (x2 _ _ (x1 _ _ z))
  repeat trivial
  refine s_pick (p := p) (n := m + 97) hl (by simp) (sl2 rfl) (hp2.ext y3) fun far H3 hfar u3 hp3 => ?_
  have n1 : q1 ≠ p.p := hp2.ne h1
  have n2 : q2 ≠ p.p := (hp2.ext x1).ne h2
  have n3 : q3 ≠ p.p := ((hp2.ext x1).ext x2).ne h3
  have hf : ∃ g, Is K (offN [p.p] H3) far g ∧ ∀ D, g ≠ .own D := by
    simp only [List.mem_cons, List.not_mem_nil, or_false] at hfar
    rcases hfar with rfl | rfl | rfl | rfl | rfl | rfl
    · exact ⟨_, lift_is u3 (.non) (fun _ z => nomatch z), (fun _ z => nomatch z)⟩
    · exact ⟨_, lift_is u3 (.int _) (fun _ z => nomatch z), (fun _ z => nomatch z)⟩
    · exact ⟨_, lift_is u3 (.str _) (fun _ z => nomatch z), (fun _ z => nomatch z)⟩
    · exact ⟨_, lift_is u3 (.lst (x3 _ _ (x2 _ _ upd_same))) (fun b z => by cases z; simpa using n1), (fun _ z => nomatch z)⟩
    · exact ⟨_, lift_is u3 (.tup (x3 _ _ upd_same)) (fun b z => by cases z; simpa using n2), (fun _ z => nomatch z)⟩
    · exact ⟨_, lift_is u3 (.dct upd_same) (fun b z => by cases z; simpa using n3), (fun _ z => nomatch z)⟩
  have up3 : Up [p.p] H H3 := up2.trans ((Up.of y3).trans u3)
  have hb3 : ∃ g, Is K (offN [p.p] H3) bad g ∧ srcOk bad = false := hb2.elim fun g k => ⟨g, k.1.ext (offN_up (((Up.of y3).trans u3).toN)), k.2⟩
  have ho3 : ∃ g, Is K (offN [p.p] H3) odd g ∧ isInt odd = false ∧ (∀ D, g = .own D → D = C) := ho.elim fun g k => ⟨g, k.1.ext (offN_up (((Up.of y3).trans u3).toN)), k.2⟩
  repeat trivial
  refine ⟨sl rfl, fun hl hhl => ?_⟩
  have x1 := ext_new (o := .lst []) hhl
  repeat trivial
  refine ⟨sl rfl, fun q1 h1 => ?_⟩
  have x2 := ext_new (o := .tup [far, .ref hl]) h1
  repeat trivial
  refine s_gPair (SqT.of upd_same) ?_
  obtain ⟨g1, k1, j1⟩ := hb3
  obtain ⟨g2, k2, j2, l2⟩ := ho3
  obtain ⟨g3, k3, j3⟩ := hf
  have hp4 : PenAt K p (m + 97) _ := (hp3.ext x1).ext x2
  have ne1 : hl ≠ p.p := hp3.ne hhl
  have ne2 : hl ≠ p.l := fun z => by
    cases w : H p.l with
    | none => exact hpl w
    | some o =>
      obtain ⟨_, _, _, k2, _⟩ := hp.at_
      have := up3 _ _ (by simpa using k2) w
      rw [← z, hhl] at this; cases this
  have new : H hl = none := by
    cases w : H hl with
    | none => rfl
    | some o =>
      have := up3 _ _ (by simpa using ne1) w
      rw [hhl] at this; cases this
  have T3 : LamX.Tabs Ts H3 := tabs_up hT up3 (fun z hz => by
    rw [List.mem_singleton.mp hz]
    obtain ⟨_, _, k, _⟩ := hp.at_
    exact ⟨_, k⟩)
  have y4 : Ext H3 _ := fun b o z => x2 _ _ (x1 _ _ z)
  have off2 : Ext (offN [p.p] H3) (offN [p.p, hl] (upd (upd H3 hl (.lst [])) q1 (.tup [far, .ref hl]))) := fun b o z => by
    obtain ⟨e1, e2, e3⟩ := offN_get z
    refine offN_at (fun w => ?_) (y4 _ _ e2) e3
    rcases List.mem_cons.mp w with w | w
    · exact e1 (by rw [w]; exact List.mem_singleton.mpr rfl)
    · rw [List.mem_singleton.mp w, hhl] at e2; cases e2
  have a3 := hs up3 hp3
  have R0 : RS K Ts p H hl [(bad, g1), (odd, g2), (far, g3), (.ref a, .own C)] (m + 97) [] [] (upd (upd H3 hl (.lst [])) q1 (.tup [far, .ref hl])) := by
    refine ⟨hp4, (T3.ext y4), up3.toN.trans (UpN.of y4), new, x2 _ _ upd_same, by decide, ne1, ne2, fun q hq => ?_, .nil⟩
    simp only [List.mem_cons, List.not_mem_nil, or_false] at hq
    rcases hq with rfl | rfl | rfl | rfl
    · exact k1.ext off2
    · exact k2.ext off2
    · exact k3.ext off2
    · exact (isN (a3.is S) (fun b z => by cases z; simpa using ane hp ha)).ext off2
  have aR : ∀ {F : List (V × Tag)} {k : Nat} {os : List Addr} {ps : List Str} {H' : Hp}, RS K Ts p H hl F k os ps H' → SumAt C H' a s n := fun R => ⟨ha.1, ha.2.elim fun dx e => ⟨dx, R.up _ _ (by simpa using ane hp ha) e (fun _ z => nomatch z)⟩⟩
  with_reducible dsimp only
  with_reducible refine s_seq ?_
  with_reducible refine app_step "source" R0 (by simp) ?_ (fun H1 R Q' Q2 k => ?_) fun H4 t1 R1 => ?_
  · rfl
  · have b1 := (R.is_ (bad, g1) (by simp)).ext offN_le
    with_reducible refine s_make ?_
    with_reducible refine s_cons ?_
    refine s_var (v := bad) rfl ?_
    with_reducible refine s_nil ?_
    intro x dx n1 n2 n3
    have ee := (ext_new (o := .own x) n2).trans (ext_new (o := .ins C dx []) (by rw [upd_ne n3.symm]; exact n1))
    exact ⟨x, dx, bad, .int 0, g1, _, rfl, upd_same, b1.ext ee, .int _, .inr (.inl ⟨j1, raise_bad fun u H3 nu e3 h3 => k u H3 (by cases w : H1 u with | none => rfl | some o => (have := ee _ _ w; rw [nu] at this; cases this)) (fun b o z => e3 _ _ (ee _ _ z)) h3⟩)⟩
  with_reducible dsimp only
  with_reducible refine s_seq ?_
  with_reducible refine app_step "source" R1 (by simp) ?_ (fun H1 R Q' Q2 k => ?_) fun H5 t2 R2 => ?_
  · rfl
  · have b1 := (R.is_ (bad, g1) (by simp)).ext offN_le
    have b2 := (R.is_ (odd, g2) (by simp)).ext offN_le
    with_reducible refine s_make ?_
    with_reducible refine s_cons ?_
    refine s_var (v := bad) rfl ?_
    with_reducible refine s_cons ?_
    refine s_var (v := odd) rfl ?_
    with_reducible refine s_nil ?_
    intro x dx n1 n2 n3
    have ee := (ext_new (o := .own x) n2).trans (ext_new (o := .ins C dx []) (by rw [upd_ne n3.symm]; exact n1))
    exact ⟨x, dx, bad, odd, g1, g2, rfl, upd_same, b1.ext ee, b2.ext ee, .inr (.inl ⟨j1, raise_bad fun u H3 nu e3 h3 => k u H3 (by cases w : H1 u with | none => rfl | some o => (have := ee _ _ w; rw [nu] at this; cases this)) (fun b o z => e3 _ _ (ee _ _ z)) h3⟩)⟩
  with_reducible dsimp only
  with_reducible refine s_seq ?_
  with_reducible refine app_step "number" R2 (by simp) ?_ (fun H1 R Q' Q2 k => ?_) fun H6 t3 R3 => ?_
  · rfl
  · have b1 := (R.is_ (bad, g1) (by simp)).ext offN_le
    have b2 := (R.is_ (odd, g2) (by simp)).ext offN_le
    with_reducible refine s_make ?_
    with_reducible refine s_cons ?_
    with_reducible refine s_c ?_
    with_reducible refine s_cons ?_
    refine s_var (v := odd) rfl ?_
    with_reducible refine s_nil ?_
    intro x dx n1 n2 n3
    have ee := (ext_new (o := .own x) n2).trans (ext_new (o := .ins C dx []) (by rw [upd_ne n3.symm]; exact n1))
    exact ⟨x, dx, .str "z3", odd, _, g2, rfl, upd_same, .str _, b2.ext ee, .inr (.inr ⟨by decide +kernel, j2, raise_bad fun u H3 nu e3 h3 => k u H3 (by cases w : H1 u with | none => rfl | some o => (have := ee _ _ w; rw [nu] at this; cases this)) (fun b o z => e3 _ _ (ee _ _ z)) h3⟩)⟩
  with_reducible dsimp only
  with_reducible refine s_seq ?_
  with_reducible refine app_step "number" R3 (by simp) ?_ (fun H1 R Q' Q2 k => ?_) fun H7 t4 R4 => ?_
  · rfl
  · have b2 := (R.is_ (odd, g2) (by simp)).ext offN_le
    obtain ⟨dx, e⟩ := (aR R).2
    with_reducible refine s_op ?_
    refine s_var (v := .ref a) rfl ?_
    refine s_var (v := odd) rfl ?_
    exact ⟨a, dx, _, g2, rfl, e, b2, l2, a, s, n, odd, g2, rfl, aR R, b2, .inr ⟨j2, raise_bad k⟩⟩
  with_reducible dsimp only
  with_reducible refine s_seq ?_
  with_reducible refine app_step "number" R4 (by simp) ?_ (fun H1 R Q' Q2 k => ?_) fun H8 t5 R5 => ?_
  · rfl
  · have b2 := (R.is_ (odd, g2) (by simp)).ext offN_le
    obtain ⟨dx, e⟩ := (aR R).2
    with_reducible refine s_op ?_
    refine s_var (v := .ref a) rfl ?_
    refine s_var (v := odd) rfl ?_
    exact ⟨a, dx, _, g2, rfl, e, b2, l2, a, s, n, odd, g2, rfl, aR R, b2, .inr ⟨j2, raise_bad k⟩⟩
  with_reducible dsimp only
  with_reducible refine s_seq ?_
  with_reducible refine app_step "other" R5 (by simp) ?_ (fun H1 R Q' Q2 k => ?_) fun H9 t6 R6 => ?_
  · rfl
  · have b3 := (R.is_ (far, g3) (by simp)).ext offN_le
    obtain ⟨dx, e⟩ := (aR R).2
    repeat trivial
    refine ⟨a, dx, _, rfl, e, by rfl, ?_⟩
    with_reducible refine s_cons ?_
    refine s_var (v := far) rfl ?_
    with_reducible refine s_nil ?_
    exact ⟨a, s, n, far, g3, rfl, aR R, b3, .inr ⟨j3, raise_bad k⟩⟩
  with_reducible dsimp only
  repeat trivial
  refine ⟨sl rfl, fun pl hp2 => ?_⟩
  have xp := ext_new (o := .lst [.str "source", .str "source", .str "number", .str "number", .str "number", .str "other"]) hp2
  with_reducible refine s_name ?_
  with_reducible dsimp only
  with_reducible refine s_ret ?_
  with_reducible refine s_op ?_
  refine s_var (v := .ref hl) rfl ?_
  with_reducible refine s_lcL ?_
  refine s_var (v := .ref pl) rfl ?_
  refine lcL (xs := [V.str "source", .str "source", .str "number", .str "number", .str "number", .str "other"]) (SqL.of upd_same) fun D hD => ?_
  have nDn : ∀ {b : Addr} {o : HO}, (upd H9 pl (.lst [.str "source", .str "source", .str "number", .str "number", .str "number", .str "other"])) b = some o → b ≠ D := fun hb z => by rw [z, hD] at hb; cases hb
  refine ⟨fun i H' => Ext (upd H9 pl (.lst [.str "source", .str "source", .str "number", .str "number", .str "number", .str "other"])) H' ∧ ∃ os : List Addr, H' D = some (.lst (os.map V.ref)) ∧ Paired (fun t part => H' t = some (.tup [.str "sum", .str part]) ∧ t ≠ D) os ((["source", "source", "number", "number", "number", "other"] : List Str).take i), ?_, ?_, ?_, ?_⟩
  · exact ⟨ext_new hD, [], upd_same, .nil⟩
  · exact fun i H' _ z => SqL.of (z.1 _ _ upd_same)
  · rintro i x H' hx ⟨e, os, h1, h2⟩
    have hx' : ∃ w : Str, x = .str w ∧ (["source", "source", "number", "number", "number", "other"] : List Str)[i]? = some w := by
      match i, hx with
      | 0, hx => exact ⟨_, (Option.some.inj hx).symm, rfl⟩
      | 1, hx => exact ⟨_, (Option.some.inj hx).symm, rfl⟩
      | 2, hx => exact ⟨_, (Option.some.inj hx).symm, rfl⟩
      | 3, hx => exact ⟨_, (Option.some.inj hx).symm, rfl⟩
      | 4, hx => exact ⟨_, (Option.some.inj hx).symm, rfl⟩
      | 5, hx => exact ⟨_, (Option.some.inj hx).symm, rfl⟩
      | (i + 6), hx => simp at hx
    obtain ⟨w, rfl, hw⟩ := hx'
    with_reducible refine s_name ?_
    refine ⟨wipe1, ?_⟩
    refine s_yes ?_
    refine ite_t (α := Unit) ?_
    repeat trivial
    refine ⟨sl rfl, fun t ht => ?_⟩
    have tD : D ≠ t := ne_of_none h1 ht
    have lo : os.length ≤ 6 := by rw [Paired.length h2, List.length_take]; exact Nat.le_trans (Nat.min_le_right _ _) (Nat.le_refl _)
    have lS : (1000 : Nat) ≤ sizeLine := by decide
    refine ⟨os.map V.ref, by rw [upd_ne tD]; exact h1, by rw [List.length_map]; omega, fun b o eb => ?_, os ++ [t], ?_, ?_⟩
    · rw [upd_ne (nDn eb), upd_ne (ne_of_none (e _ _ eb) ht)]; exact e _ _ eb
    · rw [upd_same, List.map_append]; rfl
    · rw [List.take_add_one, hw]
      refine Paired.snoc (Paired.mono (fun b c hb => ?_) h2) ?_
      · have n1 : b ≠ D := fun z => by rw [z, h1] at hb; exact absurd hb.1 (by intro z; cases z)
        exact ⟨by rw [upd_ne n1, upd_ne (ne_of_none hb.1 ht)]; exact hb.1, n1⟩
      · exact ⟨by rw [upd_ne tD.symm, upd_same], tD.symm⟩
  · rintro H' ⟨e, os, h1, h2⟩
    have e9 : Ext H9 H' := fun b o z => e _ _ (xp _ _ z)
    have dp : ∀ {os : List Addr} {ps : List Str}, Paired (fun t part => H' t = some (.tup [.str "sum", .str part])) os ps → DpAll K H' (os.map V.ref) (ps.map fun p => PyData.tuple [.str "sum", .str p]) := fun h => by
      induction h with
      | nil => exact .nil
      | cons r _ ih => exact .cons (.tup (SqT.of r) (.cons (.str _) (.cons (.str _) .nil))) ih
    have d1 : DpAll K H' _ (((["source", "source", "number", "number", "number", "other"] : List Str)).map fun p => PyData.tuple [.str "sum", .str p]) := dp (Paired.mono (fun b c hb => e9 _ _ hb) R6.tup)
    have d2 : DpAll K H' _ (((["source", "source", "number", "number", "number", "other"] : List Str)).map fun p => PyData.tuple [.str "sum", .str p]) := dp (Paired.mono (fun b c hb => hb.1) h2)
    refine s_eqD (.lst (SqL.of (e9 _ _ R6.lst)) d1) (.lst (SqL.of h1) d2) (by decide +kernel) (by decide +kernel) ?_
    rw [show PyData.eqv (.list ((["source", "source", "number", "number", "number", "other"] : List Str).map fun p => PyData.tuple [.str "sum", .str p])) (.list ((["source", "source", "number", "number", "number", "other"] : List Str).map fun p => PyData.tuple [.str "sum", .str p])) = true from by decide +kernel]
    exact q H' (R6.up.trans (UpN.of e9)) (R6.tabs.ext e9) ((R6.pen.ext e9).less (by omega))
end
end K8
end
section
set_option linter.all false
set_option maxRecDepth 100000
set_option maxHeartbeats 1000000
open PySem PySem.Spec PyProof.Rows L2 Tk PySem.NumText
namespace K8
local macro_rules | `(tactic| trivial) => `(tactic| first
  | with_reducible refine s_seq ?_
  | with_reducible refine s_asg ?_
  | with_reducible refine s_op ?_
  | with_reducible refine s_c ?_
  | with_reducible refine s_name ?_
  | with_reducible refine s_cb ?_
  | with_reducible refine s_cons ?_
  | with_reducible refine s_nil ?_
  | with_reducible refine s_call ?_
  | with_reducible refine s_ret ?_
  | with_reducible refine s_ifS ?_
  | with_reducible refine s_test ?_
  | with_reducible refine s_B ?_
  | with_reducible refine s_kB ?_
  | with_reducible refine s_kI ?_
  | with_reducible refine s_addI ?_
  | with_reducible refine s_subI ?_
  | with_reducible refine s_ltI ?_
  | with_reducible refine s_leI ?_
  | with_reducible refine s_gtI ?_
  | with_reducible refine s_geI ?_
  | with_reducible refine s_int1 ?_
  | with_reducible refine s_intB ?_
  | with_reducible refine s_abs ?_
  | with_reducible refine s_eq rfl ?_
  | with_reducible refine s_ne rfl ?_
  | with_reducible refine s_isN ?_
  | with_reducible refine s_notN ?_
  | with_reducible refine s_un ?_
  | with_reducible refine s_unI ?_
  | with_reducible refine s_and ?_
  | with_reducible refine s_or ?_
  | with_reducible refine s_not ?_
  | with_reducible refine s_andV ?_
  | with_reducible refine s_orV ?_
  | with_reducible refine s_notV ?_
  | with_reducible refine s_if ?_
  | with_reducible refine s_tup ?_
  | with_reducible refine s_lst ?_
  | with_reducible refine s_fldT ?_
  | with_reducible refine s_drop ?_
  | with_reducible refine s_sl ?_
  | with_reducible refine s_none ?_
  | with_reducible refine s_some ?_
  | with_reducible refine s_sub ?_
  | with_reducible refine s_cval ?_
  | with_reducible refine s_bm ?_
  | with_reducible refine s_m1 ?_
  | with_reducible refine s_par ?_
  | with_reducible refine s_par3 ?_
  | with_reducible refine s_raise ?_
  | with_reducible refine s_sfld ?_
  | with_reducible refine s_make ?_
  | with_reducible refine s_dget ?_
  | with_reducible refine s_dget1 ?_
  | with_reducible refine s_js ?_
  | with_reducible refine s_jn ?_
  | with_reducible refine s_fmt ?_
  | with_reducible refine s_join _ ?_
  | with_reducible refine s_xfld ?_
  | with_reducible refine s_st ?_
  | with_reducible refine s_stK ?_
  | with_reducible refine s_mtK ?_
  | with_reducible refine s_mkKw ?_
  | with_reducible refine s_meth ?_
  | with_reducible refine s_next ?_
  | ((with_reducible refine s_var (v := ?_) ?_ ?_); rotate_left; focus rfl))
/-! ### values_right -/
section
variable {K : PySem.W.Frag} {C B T : Addr} {Ts : List (Addr × Str)}
def L7 : List Str := ["s", "p", "o", "z3", "z2", "z1", "z0"]
def kv7 (v : Str → Int) : List (Key × V) := L7.map fun x => (Sum.inr x, V.int (v x))
def kv8 (v : Str → Int) : List (Key × V) := kv7 v ++ [((Sum.inr "x" : Key), V.non)]
theorem merge7 (v : Str → Int) : mergeK [] (kv7 v) = kv7 v := by rfl
theorem put8 (v : Str → Int) : putK (kv7 v) (.inr "x") .non = kv8 v := by rfl
theorem merge8 (v : Str → Int) : mergeK [] (kv8 v) = kv8 v := by rfl
theorem names_cases {P : Str → Prop} {s : Str} (h : names.contains s = true) (h0 : P "p") (h1 : P "z0") (h2 : P "z1") (h3 : P "z2") (h4 : P "z3") (h5 : P "o") (h6 : P "s") : P s := by
  have := List.contains_iff_mem.mp h
  simp only [names, List.mem_cons, List.not_mem_nil, or_false] at this
  rcases this with rfl | rfl | rfl | rfl | rfl | rfl | rfl <;> assumption
theorem val8 (v : Str → Int) {s : Str} (h : names.contains s = true) : valV (kv8 v) (.inr s) = some (.int (v s)) := by
  refine names_cases (P := fun s => valV (kv8 v) (.inr s) = some (.int (v s))) h ?_ ?_ ?_ ?_ ?_ ?_ ?_ <;> rfl
theorem of7 (ns : List Int) (h : ns.length = 7) : ∃ v : Str → Int, (L7.zip ns).map (fun q => ((Sum.inr q.1 : Key), V.int q.2)) = kv7 v := by
  match ns, h with
  | [a, b, c, d, e, f, g], _ => exact ⟨fun x => ([a, b, c, d, e, f, g] : List Int).getD (L7.idxOf x) 0, rfl⟩
theorem self8 (v : Str → Int) : ∀ p ∈ kv8 v, valV (kv8 v) p.1 = some p.2 ∧ flatB p.2 = true := by
  intro p hp
  simp only [kv8, kv7, L7, List.map_cons, List.map_nil, List.cons_append, List.nil_append, List.mem_cons, List.not_mem_nil, or_false] at hp
  rcases hp with rfl | rfl | rfl | rfl | rfl | rfl | rfl | rfl <;> exact ⟨rfl, rfl⟩
theorem zip_snoc {α β : Type} {w : α} {d : β} : ∀ {xs : List α} {ys : List β}, xs[ys.length]? = some w → xs.zip (ys ++ [d]) = xs.zip ys ++ [(w, d)]
  | x :: xs, [], h => by simp at h; subst h; simp
  | x :: xs, y :: ys, h => by
    have h' : xs[ys.length]? = some w := by simpa using h
    show (x, y) :: xs.zip (ys ++ [d]) = (x, y) :: (xs.zip ys ++ [(w, d)])
    rw [zip_snoc h']
  | [], ys, h => by simp at h
/-! comprehensions over a dict's keys -/
def kLcK (g : TG) (tt : TT) (te : TE) (vs : List Nat) (σ : L2.St) (Q : VK) : VK := fun x H1 => ∃ d o, x = .ref d ∧ ((∃ kvs, H1 d = some (.frz o (.dK kvs)) ∧ lcGo (Itk d o kvs) g tt te vs σ Q H1) ∨ ∃ kvs, H1 d = some (.frz o (.dT kvs)) ∧ lcGo (Itkt d o kvs) g tt te vs σ Q H1)
theorem s_lcK {td : TE} {g : TG} {tt : TT} {te : TE} {vs : List Nat} {σ : L2.St} {H : Hp} {Q : VK} (q : td σ H (kLcK g tt te vs σ Q)) : tLc (iKeys td) g tt te vs σ H Q := q
theorem lcK {g : TG} {tt : TT} {te : TE} {vs : List Nat} {σ : L2.St} {H : Hp} {Q : VK} {d : Addr} {o : Obj} {kvs : List (Key × V)} (h : H d = some (.frz o (.dK kvs))) (go : ∀ D, H D = none → ∃ Pv : Nat → Hp → Prop, Pv 0 (upd H D (.lst [])) ∧ (∀ i H, i ≤ kvs.length → Pv i H → H d = some (.frz o (.dK kvs))) ∧
    (∀ i k v H, kvs[i]? = some (k, v) → Pv i H → g (kV k) (wipe σ vs) H fun σ2 H2 => wipe σ2 vs = wipe σ vs ∧ tt σ2 H2 fun b H3 =>
      if b = true then te σ2 H3 fun y H4 => ∃ acc, H4 D = some (.lst acc) ∧ acc.length < sizeLine ∧ Pv (i + 1) (upd H4 D (.lst (acc ++ [y]))) else Pv (i + 1) H3) ∧ ∀ H, Pv kvs.length H → Q (.ref D) H) : kLcK g tt te vs σ Q (.ref d) H := by
  refine ⟨d, o, rfl, .inl ⟨kvs, h, fun D hD => ?_⟩⟩
  obtain ⟨Pv, h0, hG, hs, hd⟩ := go D hD
  exact lc_it walk_keys Pv h0 hG (fun i x H H' _ p y => by obtain ⟨rfl, k, v, hx, rfl⟩ := y; exact hs i k v _ hx p) hd
theorem valV_merge {k : Key} : ∀ {more kvs : List (Key × V)}, (∀ q ∈ more, q.1 ≠ k) → valV (mergeK kvs more) k = valV kvs k
  | [], _, _ => rfl
  | q :: r, kvs, h => by
    show valV (mergeK (putK kvs q.1 q.2) r) k = _
    rw [valV_merge (more := r) (fun x hx => h x (List.mem_cons_of_mem _ hx)), valV_put, if_neg (fun z => h q List.mem_cons_self z.symm)]
theorem s_lockE {t : TE} {σ : L2.St} {H : Hp} {Q : VK} (q : ∃ d u, H d = some u ∧ Mut (some u) ∧ ∀ od, t σ (upd H d (.frz od u)) fun v H' => H' d = some (.frz od u) ∧ Q v (upd H' d u)) : tLockE t σ H Q := q
theorem s_dput {td ty tv : TE} {D : Ends} {σ : L2.St} {H : Hp} (q : tv σ H fun v H1 => td σ H1 fun x H2 => ty σ H2 fun y H3 => ∃ a H4, x = .ref a ∧ DPut H3 a y v H4 ∧ D.nx σ H4) : sDPut td ty tv D σ H := q
theorem s_items {te : TE} {σ : L2.St} {H : Hp} {Q : VK} (q : te σ H fun x H1 => LiI.rItemsL x H1 Q) : LiI.tListItems te σ H Q := q
theorem key8 {v : Str → Int} {k : Key} {x : V} {i : Nat} (h : (kv8 v)[i]? = some (k, x)) : ∃ w, k = .inr w := by
  have := List.mem_of_getElem? h
  simp only [kv8, kv7, L7, List.map_cons, List.map_nil, List.cons_append, List.nil_append, List.mem_cons, List.not_mem_nil, or_false, Prod.mk.injEq] at this
  rcases this with h | h | h | h | h | h | h | h <;> exact ⟨_, h.1⟩
/-- what value_in refuses -/
def BadNs (K : PySem.W.Frag) (s : Str) (H : Hp) (x : V) : Prop := ∃ g, Is K H x g ∧ (g ≠ .dct ∨ ∃ d kvs g', x = .ref d ∧ H d = some (.dK kvs) ∧ Is K H ((valV kvs (.inr s)).getD .non) g' ∧ isInt ((valV kvs (.inr s)).getD .non) = false)
theorem BadNs.ext {s : Str} {H H' : Hp} {x : V} (h : BadNs K s H x) (e : Ext H H') : BadNs K s H' x := by
  obtain ⟨g, h1, h2⟩ := h
  refine ⟨g, h1.ext e, h2.imp id ?_⟩
  rintro ⟨d, kvs, g', r, k1, k2, k3⟩
  exact ⟨d, kvs, g', r, e _ _ k1, k2.ext e, k3⟩
theorem rd_values (S : SumC K C) {vs : List V} {H : Hp} {Q : VK} {E : XK} (h : spValues K C Ts vs H Q E) : t__law_values_right K C B T Ts { nx := fun _ H' => Q .non H', rt := Q } (start n__law_values_right vs) H := by
  obtain ⟨p, a, s, n, m, rfl, ha, hp, hpl, hT, q⟩ := h
  have ane : ∀ {H' : Hp} {k : Nat}, PenAt K p k H' → SumAt C H' a s n → a ≠ p.p := fun h1 h2 z => by
    obtain ⟨i, g, k1, _⟩ := h1.at_
    obtain ⟨_, dx, k2⟩ := h2
    rw [z, k1] at k2; cases k2
  have hs : ∀ {H' : Hp}, Up [p.p] H H' → SumAt C H' a s n := fun u => ⟨ha.1, ha.2.elim fun dx e => ⟨dx, u _ _ (by simpa using ane hp ha) e⟩⟩
  have lS : (1000 : Nat) ≤ sizeLine := by decide
  unfold t__law_values_right
  with_reducible refine s_seq ?_
  with_reducible refine s_asg ?_
  with_reducible refine s_cb ?_
  with_reducible refine s_cons ?_
  with_reducible refine s_lcL ?_
  repeat trivial
  refine ⟨sl rfl, fun l hl => ?_⟩
  have x0 := ext_new (o := .lst (L7.map V.str)) hl
  refine lcL (xs := L7.map V.str) (SqL.of upd_same) fun D hD => ?_
  have hp0 := hp.ext x0
  have Dl : D ≠ l := fun z => by rw [z, upd_same] at hD; cases hD
  have Dp : D ≠ p.p := hp0.ne hD
  have Dpl : D ≠ p.l := fun z => hpl (by rw [← z]; exact (Up.of (M := []) x0).free hD)
  refine ⟨fun i H' => Up [p.p] H H' ∧ PenAt K p (m + 100 - 3 * i) H' ∧ H' l = some (.lst (L7.map V.str)) ∧ ∃ (os : List Addr) (ns : List Int), ns.length = i ∧ H' D = some (.lst (os.map V.ref)) ∧ Paired (fun t (kv : Key × V) => H' t = some (.tup [kV kv.1, kv.2])) os ((L7.zip ns).map fun q => ((Sum.inr q.1 : Key), V.int q.2)), ?_, ?_, ?_, ?_⟩
  · exact ⟨(Up.of x0).new hD, (hp0.ext (ext_new hD)).less (by omega), by rw [upd_ne Dl.symm, upd_same]; rfl, [], [], rfl, upd_same, .nil⟩
  · exact fun i H' _ z => SqL.of z.2.2.1
  · rintro i x H' hx ⟨u, hp', hl', os, ns, hn, h1, h2⟩
    have hi : i < 7 := by
      have := (List.getElem?_eq_some_iff.mp hx).1
      simpa [L7] using this
    obtain ⟨w, hw, rfl⟩ : ∃ w, L7[i]? = some w ∧ V.str w = x := by
      rw [List.getElem?_map] at hx
      exact Option.map_eq_some_iff.mp hx
    with_reducible refine s_name ?_
    refine ⟨wipe1, ?_⟩
    refine s_yes ?_
    refine ite_t (α := Unit) ?_
    repeat trivial
    refine ⟨p, m + 100 - 3 * (i + 1), rfl, by rw [show m + 100 - 3 * (i + 1) + 3 = m + 100 - 3 * i from by omega]; exact hp', fun d H2 _ _ u2 hp2 => ?_⟩
    repeat trivial
    refine ⟨sl rfl, fun t ht => ?_⟩
    have hl2 : H2 l = some (.lst (L7.map V.str)) := u2 _ _ (by simpa using (hp.ne hl)) hl'
    have hD2 : H2 D = some (.lst (os.map V.ref)) := u2 _ _ (by simpa using Dp) h1
    have tD : D ≠ t := ne_of_none hD2 ht
    have tl : l ≠ t := ne_of_none hl2 ht
    have np : ∀ {b : Addr} {ys : List V}, H' b = some (.tup ys) → b ≠ p.p := fun hb z => by
      obtain ⟨_, _, k1, _⟩ := hp'.at_
      rw [z, k1] at hb; cases hb
    have lo : os.length ≤ 7 := by rw [Paired.length h2, List.length_map, List.length_zip]; exact Nat.le_trans (Nat.min_le_left _ _) (Nat.le_refl _)
    refine ⟨os.map V.ref, by rw [upd_ne tD]; exact hD2, by rw [List.length_map]; omega, ?_, ?_, ?_, os ++ [t], ns ++ [d], ?_, ?_, ?_⟩
    · refine fun b o nb eb => ?_
      have e1 := u2 _ _ nb (u _ _ nb eb)
      rw [upd_ne (show b ≠ D from fun z => by rw [z, (Up.of (M := []) x0).free hD] at eb; cases eb), upd_ne (ne_of_none e1 ht)]
      exact e1
    · exact (hp2.ext (ext_new ht)).keep Dp Dpl
    · rw [upd_ne Dl.symm, upd_ne tl]; exact hl2
    · rw [List.length_append, hn]; rfl
    · rw [upd_same, List.map_append]; rfl
    · rw [zip_snoc (by rw [hn]; exact hw), List.map_append]
      refine Paired.snoc (Paired.mono (fun b c hb => ?_) h2) ?_
      · have e2 := u2 _ _ (by simpa using np hb) hb
        rw [upd_ne (fun z => by rw [z, h1] at hb; cases hb), upd_ne (ne_of_none e2 ht)]; exact e2
      · rw [upd_ne tD.symm, upd_same]; rfl
  · rintro H' ⟨u, hp', hl', os, ns, hn, h1, h2⟩
    obtain ⟨v, hv⟩ := of7 ns (by simpa [L7] using hn)
    rw [hv] at h2
    refine ⟨D, os, kv7 v, rfl, SqL.of h1, Paired.mono (fun _ _ r => SqT.of r) h2, fun d hd => ?_⟩
    rw [merge7]
    have hp1 := (hp'.ext (ext_new (o := .dK (kv8 v)) hd)).less (show m + 60 ≤ _ by simp [L7])
    have u1 := u.new (o := .dK (kv8 v)) hd
    have k1 : upd H' d (.dK (kv8 v)) d = some (.dK (kv8 v)) := upd_same
    have dp : d ≠ p.p := hp'.ne hd
    clear h1 h2 hl' hv hn
    repeat trivial
    refine s_dput ?_
    repeat trivial
    refine ⟨d, _, rfl, DPut.k (k := Sum.inr "x") upd_same (by show (7 : Nat) < sizeLine; decide), ?_⟩
    rw [put8, upd_upd]
    generalize upd H' d (.dK (kv8 v)) = H1 at hp1 u1 k1 ⊢
    clear hd hp' u Dl Dp Dpl hD hp0 x0 hl
    with_reducible dsimp only
    repeat trivial
    refine s_items ?_
    repeat trivial
    refine ⟨d, kv8 v, rfl, k1, fun H2 lp ts e2 nl nt1 nt2 hlp pr => ?_⟩
    repeat trivial
    refine ⟨lp, ts, kv8 v, rfl, SqL.of hlp, Paired.mono (fun _ _ r => SqT.of r) pr, fun d2 hd2 => ?_⟩
    rw [merge8]
    have x2 : Ext H1 (upd H2 d2 (.dK (kv8 v))) := fun b o z => ext_new hd2 _ _ (e2 _ _ z)
    have hp3 := hp1.ext x2
    have u3 := u1.trans (Up.of x2)
    have k1 := x2 _ _ k1
    have k2 : (upd H2 d2 (.dK (kv8 v))) d2 = some (.dK (kv8 v)) := upd_same
    have dp2 : d2 ≠ p.p := (hp1.ext e2).ne hd2
    generalize upd H2 d2 (.dK (kv8 v)) = H3 at hp3 u3 k1 k2 ⊢
    clear x2 e2 nl nt1 nt2 hlp pr hd2 u1 hp1
    with_reducible refine s_name ?_
    with_reducible dsimp only
    with_reducible refine s_seqJ ?_
    repeat trivial
    obtain ⟨dx, ea⟩ := (hs u3).2
    refine ⟨a, dx, _, rfl, ea, by rfl, ?_⟩
    repeat trivial
    refine ⟨a, s, n, .ref d, .dct, rfl, hs u3, .dct k1, .inl ⟨d, kv8 v, v s, rfl, k1, val8 v ha.1, ?_⟩⟩
    repeat trivial
    refine ⟨d2, .int (v s), rfl, val8 v ha.1 ▸ DGet.k (k := .inr s) k2, ?_⟩
    repeat trivial
    rw [show (!decide (V.int (v s + n) = V.int (v s + n))) = false from by simp]
    refine ite_f ?_
    repeat trivial
    refine ⟨d, d2, kv8 v, kv8 v, rfl, rfl, k1, k2, rfl, self8 v, ?_⟩
    repeat trivial
    refine ite_f ?_
    repeat trivial
    refine ⟨a, dx, _, rfl, ea, by rfl, ?_⟩
    with_reducible refine s_cons ?_
    refine s_disp1 fun q3 h3 => ?_
    repeat trivial
    refine ⟨upd_same, [(.inr s, .int 7)], rfl, by show (1 : Nat) ≤ 15; decide, ?_⟩
    rw [upd_upd]
    repeat trivial
    have x3 := ext_new (o := .dK (mergeK [] [(.inr s, .int 7)])) h3
    refine ⟨rfl, a, s, n, .ref q3, .dct, rfl, hs (u3.trans (Up.of x3)), .dct upd_same, .inl ⟨q3, _, 7, rfl, upd_same, by rw [show mergeK [] [((Sum.inr s : Key), V.int 7)] = putK [] (.inr s) (.int 7) from rfl, valV_put, if_pos rfl], ?_⟩⟩
    repeat trivial
    rw [show (!decide (V.int (7 + n) = V.int (7 + n))) = false from by simp]
    refine ite_f ?_
    have hp4 := hp3.ext x3
    have u4 := u3.trans (Up.of x3)
    have k2 := x3 _ _ k2
    generalize upd H3 q3 (.dK (mergeK [] [(.inr s, .int 7)])) = H4 at hp4 u4 k2 ⊢
    clear k1 x3 hp3 u3 h3 ea
    repeat trivial
    refine s_items ?_
    repeat trivial
    refine ⟨d2, kv8 v, rfl, k2, fun H5 lp2 ts2 e5 nl nt1 nt2 hlp pr => ?_⟩
    repeat trivial
    refine ⟨lp2, ts2, kv8 v, rfl, SqL.of hlp, Paired.mono (fun _ _ r => SqT.of r) pr, fun d3 hd3 => ?_⟩
    rw [merge8]
    have x5 : Ext H4 (upd H5 d3 (.dK (kv8 v))) := fun b o z => ext_new hd3 _ _ (e5 _ _ z)
    have hp5 := hp4.ext x5
    have u5 := u4.trans (Up.of x5)
    have k2 := x5 _ _ k2
    have k3 : (upd H5 d3 (.dK (kv8 v))) d3 = some (.dK (kv8 v)) := upd_same
    have dp3 : d3 ≠ p.p := (hp4.ext e5).ne hd3
    have d23 : d2 ≠ d3 := ne_of_none (e5 _ _ (by assumption)) hd3
    have nd3 : H d3 = none := by
      cases w : H d3 with
      | none => rfl
      | some o => (have := e5 _ _ (u4 _ _ (by simpa using dp3) w); rw [hd3] at this; cases this)
    generalize upd H5 d3 (.dK (kv8 v)) = H6 at hp5 u5 k2 k3 ⊢
    clear x5 e5 nl nt1 nt2 hlp pr hd3 u4 hp4
    with_reducible refine s_name ?_
    with_reducible dsimp only
    with_reducible refine s_seq ?_
    refine s_dput ?_
    repeat trivial
    refine ⟨sl rfl, fun q1 h1 => ?_⟩
    have x1 := ext_new (o := .lst [.int 1]) h1
    repeat trivial
    refine ⟨sl rfl, fun q2 h2 => ?_⟩
    have x2 := ext_new (o := .tup [.int 1]) h2
    repeat trivial
    refine ⟨sl rfl, fun l hl => ?_⟩
    have y2 : Ext H6 _ := fun b o z => x2 _ _ (x1 _ _ z)
    repeat trivial
    refine s_pick (p := p) (n := m + 59) hl (by simp) (sl2 rfl) (hp5.ext y2) fun bad H7 hbad u7 hp7 => ?_
    have hb : ∃ g, Is K (offN [p.p, d3] H7) bad g ∧ isInt bad = false ∧ ∀ b, bad = .ref b → b ≠ p.p := by
      have up7 := u5.trans ((Up.of y2).trans u7)
      have n1 : q1 ≠ p.p := hp5.ne h1
      have n2 : q2 ≠ p.p := (hp5.ext x1).ne h2
      have m1 : q1 ≠ d3 := (ne_of_none k3 h1).symm
      have m2 : q2 ≠ d3 := (ne_of_none (x1 _ _ k3) h2).symm
      have na : a ≠ d3 := fun z => by obtain ⟨_, dx, e⟩ := ha; rw [z, nd3] at e; cases e
      simp only [List.mem_cons, List.not_mem_nil, or_false] at hbad
      rcases hbad with rfl | rfl | rfl | rfl | rfl | rfl | rfl
      · exact ⟨_, .non, rfl, fun _ z => nomatch z⟩
      · exact ⟨_, .bl _, rfl, fun _ z => nomatch z⟩
      · exact ⟨_, .bl _, rfl, fun _ z => nomatch z⟩
      · exact ⟨_, .str _, rfl, fun _ z => nomatch z⟩
      · exact ⟨_, isN (.lst (u7 _ _ (by simpa using n1) (x2 _ _ upd_same))) (fun b z => by cases z; simpa using ⟨n1, m1⟩), rfl, fun b z => by cases z; exact n1⟩
      · exact ⟨_, isN (.tup (u7 _ _ (by simpa using n2) upd_same)) (fun b z => by cases z; simpa using ⟨n2, m2⟩), rfl, fun b z => by cases z; exact n2⟩
      · exact ⟨_, isN ((hs up7).is S) (fun b z => by cases z; simpa using ⟨ane hp ha, na⟩), rfl, fun b z => by cases z; exact ane hp ha⟩
    have k2 := u7 _ _ (by simpa using dp2) (y2 _ _ k2)
    have k3 := u7 _ _ (by simpa using dp3) (y2 _ _ k3)
    have u7 := u5.trans ((Up.of y2).trans u7)
    repeat trivial
    refine ⟨d3, _, rfl, DPut.k (k := Sum.inr s) k3 (by show (8 : Nat) < sizeLine; decide), ?_⟩
    have hp8 := hp7.keep (o := .dK (putK (kv8 v) (Sum.inr s) bad)) dp3 (fun z => hpl (by rw [← z]; exact nd3))
    have u8 : Up [p.p] H (upd H7 d3 (.dK (putK (kv8 v) (Sum.inr s) bad))) := fun b o nb eb => by rw [upd_ne (ne_of_none eb nd3)]; exact u7 _ _ nb eb
    have k2 : upd H7 d3 (.dK (putK (kv8 v) (Sum.inr s) bad)) d2 = some (.dK (kv8 v)) := by rw [upd_ne d23]; exact k2
    have k3 : upd H7 d3 (.dK (putK (kv8 v) (Sum.inr s) bad)) d3 = some (.dK (putK (kv8 v) (Sum.inr s) bad)) := upd_same
    have hb : ∃ g, Is K (upd H7 d3 (.dK (putK (kv8 v) (Sum.inr s) bad))) bad g ∧ isInt bad = false ∧ ∀ b, bad = .ref b → b ≠ p.p := by
      obtain ⟨g, h1, h2⟩ := hb
      exact ⟨g, (h1.ext (offN_up (upN_at (by simp)))).ext offN_le, h2⟩
    generalize upd H7 d3 (.dK (putK (kv8 v) (Sum.inr s) bad)) = H8 at hp8 u8 k2 k3 hb ⊢
    clear u7 hp7 hbad y2 hl x2 h2 x1 h1 u5 hp5
    with_reducible dsimp only
    with_reducible refine s_seq ?_
    with_reducible refine s_asg ?_
    with_reducible refine s_cb ?_
    with_reducible refine s_cons ?_
    refine s_lockE ⟨d2, .dK (kv8 v), k2, True.intro, fun od => ?_⟩
    with_reducible refine s_lcK ?_
    refine s_var (v := .ref d2) rfl ?_
    refine lcK (kvs := kv8 v) upd_same fun D hD => ?_
    refine ⟨fun i H' => Ext (upd H8 d2 (.frz od (.dK (kv8 v)))) H' ∧ ∃ os : List Addr, H' D = some (.lst (os.map V.ref)) ∧ Paired (fun t (kv : Key × V) => H' t = some (.tup [kV kv.1, kv.2])) os (((kv8 v).take i).filter fun kv => decide (kv.1 ≠ Sum.inr s)), ?_, ?_, ?_, ?_⟩
    · exact ⟨ext_new hD, [], upd_same, .nil⟩
    · exact fun i H' _ z => z.1 _ _ upd_same
    · rintro i k x H' hx ⟨e, os, h1, h2⟩
      obtain ⟨w, rfl⟩ := key8 hx
      with_reducible refine s_name ?_
      refine ⟨wipe1, ?_⟩
      repeat trivial
      have tk : (kv8 v).take (i + 1) = (kv8 v).take i ++ [(Sum.inr w, x)] := by rw [List.take_add_one, hx]; rfl
      refine ite_n (fun eq => ?_) (fun eq => ?_)
      · have nw : w ≠ s := fun z => (of_decide_eq_false eq) (by rw [z]; rfl)
        repeat trivial
        refine ⟨d2, x, rfl, .inl ⟨kv8 v, .inr w, .inr ⟨od, e _ _ upd_same⟩, rfl, ((self8 v _ (List.mem_of_getElem? hx)).1).symm⟩, ?_⟩
        repeat trivial
        refine ⟨sl rfl, fun t ht => ?_⟩
        have tD : D ≠ t := ne_of_none h1 ht
        have lo : os.length ≤ 8 := by
          rw [Paired.length h2]
          refine Nat.le_trans (List.length_filter_le _ _) ?_
          rw [List.length_take]
          exact Nat.min_le_right _ _
        refine ⟨os.map V.ref, by rw [upd_ne tD]; exact h1, by rw [List.length_map]; omega, fun b o eb => ?_, os ++ [t], ?_, ?_⟩
        · rw [upd_ne (ne_of_none eb hD), upd_ne (ne_of_none (e _ _ eb) ht)]; exact e _ _ eb
        · rw [upd_same, List.map_append]; rfl
        · rw [tk, List.filter_append]
          rw [show ([((Sum.inr w : Key), x)].filter fun kv => decide (kv.1 ≠ Sum.inr s)) = [(Sum.inr w, x)] from by simp [nw]]
          refine Paired.snoc (Paired.mono (fun b c hb => ?_) h2) ?_
          · rw [upd_ne (fun z => by rw [z, h1] at hb; cases hb), upd_ne (ne_of_none hb ht)]; exact hb
          · rw [upd_ne tD.symm, upd_same]
      · have nw : w = s := V.str.inj (of_decide_eq_true eq)
        refine ⟨e, os, h1, ?_⟩
        rw [tk, List.filter_append]
        rw [show ([((Sum.inr w : Key), x)].filter fun kv => decide (kv.1 ≠ Sum.inr s)) = [] from by simp [nw]]
        rw [List.append_nil]
        exact h2
    · rintro H' ⟨e, os, h1, h2⟩
      refine ⟨e _ _ upd_same, ?_⟩
      have n2D : D ≠ d2 := fun z => by rw [z, upd_same] at hD; cases hD
      have x9 : Ext H8 (upd H' d2 (.dK (kv8 v))) := fun b o eb => by
        by_cases z : b = d2
        · rw [z] at eb ⊢; rw [upd_same, ← k2]; exact eb
        · rw [upd_ne z]; exact e _ _ (by rw [upd_ne z]; exact eb)
      with_reducible refine s_nil ?_
      refine ⟨D, os, _, rfl, SqL.of (by rw [upd_ne n2D]; exact h1), Paired.mono (fun b c r => SqT.of (by rw [upd_ne (fun z => by rw [z, e _ _ upd_same] at r; cases r)]; exact r)) h2, fun d4 hd4 => ?_⟩
      have v4 : valV (mergeK [] (((kv8 v).take (kv8 v).length).filter fun kv => decide (kv.1 ≠ Sum.inr s))) (Sum.inr s) = none := valV_merge fun q hq => by simpa using (List.mem_filter.mp hq).2
      generalize mergeK [] (((kv8 v).take (kv8 v).length).filter fun kv => decide (kv.1 ≠ Sum.inr s)) = less at v4 ⊢
      have x10 : Ext H8 (upd (upd H' d2 (.dK (kv8 v))) d4 (.dK less)) := fun b o z => ext_new hd4 _ _ (x9 _ _ z)
      have hp9 := hp8.ext x10
      have u9 := u8.trans (Up.of x10)
      have k2 := x10 _ _ k2
      have k3 := x10 _ _ k3
      have k4 : upd (upd H' d2 (.dK (kv8 v))) d4 (.dK less) d4 = some (.dK less) := upd_same
      have dp4 : d4 ≠ p.p := (hp8.ext x9).ne hd4
      have hb : ∃ g, Is K (upd (upd H' d2 (.dK (kv8 v))) d4 (.dK less)) bad g ∧ isInt bad = false ∧ ∀ b, bad = .ref b → b ≠ p.p := hb.elim fun g h => ⟨g, h.1.ext x10, h.2⟩
      generalize upd (upd H' d2 (.dK (kv8 v))) d4 (.dK less) = H9 at hp9 u9 k2 k3 k4 hb ⊢
      clear x10 x9 h1 h2 e hD hd4 hp8 u8
      with_reducible refine s_name ?_
      with_reducible dsimp only
      repeat trivial
      refine ⟨sl rfl, fun q1 h1 => ?_⟩
      have x1 := ext_new (o := .lst []) h1
      repeat trivial
      refine ⟨sl rfl, fun q2 h2 => ?_⟩
      have x2 := ext_new (o := .tup []) h2
      repeat trivial
      refine s_items ?_
      repeat trivial
      refine ⟨d2, kv8 v, rfl, x2 _ _ (x1 _ _ k2), fun H5 lp2 ts2 e5 nl nt1 nt2 hlp pr => ?_⟩
      repeat trivial
      refine s_dnew fun q3 h3 => ?_
      have x3 := ext_new (o := .dK []) h3
      repeat trivial
      refine ⟨sl rfl, fun l hl => ?_⟩
      have y3 : Ext H9 _ := fun b o z => x3 _ _ (e5 _ _ (x2 _ _ (x1 _ _ z)))
      repeat trivial
      refine s_pick (p := p) (n := m + 58) hl (by simp) (sl2 rfl) (hp9.ext y3) fun odd H7 hodd u7 hp7 => ?_
      have ho : BadNs K s (offN [p.p] H7) odd := by
        have up7 := u9.trans ((Up.of y3).trans u7)
        have n1 : q1 ≠ p.p := hp9.ne h1
        have n2 : q2 ≠ p.p := (hp9.ext x1).ne h2
        have n3 : q3 ≠ p.p := (hp9.ext fun b o z => e5 _ _ (x2 _ _ (x1 _ _ z))).ne h3
        have nlp : lp2 ≠ p.p := ((hp9.ext x1).ext x2).ne nl
        have of : ∀ {b : Addr} {o : HO}, b ≠ p.p → (∀ ps, o ≠ .tbl ps) → (upd H5 q3 (.dK [])) b = some o → offN [p.p] H7 b = some o := fun nb nt e => offN_at (by simpa using nb) (u7 _ _ (by simpa using nb) e) nt
        have is : ∀ {y : V} {g : Tag}, Is K (upd H5 q3 (.dK [])) y g → (∀ b, y = .ref b → b ≠ p.p) → Is K (offN [p.p] H7) y g := fun h nb => lift_is u7 h (fun b e => by simpa using nb b e)
        simp only [List.mem_cons, List.not_mem_nil, or_false] at hodd
        rcases hodd with rfl | rfl | rfl | rfl | rfl | rfl | rfl | rfl | rfl | rfl | rfl
        · exact ⟨_, .non, .inl fun z => nomatch z⟩
        · exact ⟨_, .int _, .inl fun z => nomatch z⟩
        · exact ⟨_, .bl _, .inl fun z => nomatch z⟩
        · exact ⟨_, .str _, .inl fun z => nomatch z⟩
        · exact ⟨_, .lst (of n1 (fun _ z => nomatch z) (x3 _ _ (e5 _ _ (x2 _ _ upd_same)))), .inl fun z => nomatch z⟩
        · exact ⟨_, .tup (of n2 (fun _ z => nomatch z) (x3 _ _ (e5 _ _ upd_same))), .inl fun z => nomatch z⟩
        · exact ⟨_, .lst (of nlp (fun _ z => nomatch z) (x3 _ _ hlp)), .inl fun z => nomatch z⟩
        · exact ⟨_, is (((hs u9).is S).ext y3) (fun b z => by cases z; exact ane hp ha), .inl fun z => nomatch z⟩
        · exact ⟨_, .dct (of n3 (fun _ z => nomatch z) upd_same), .inr ⟨_, _, _, rfl, of n3 (fun _ z => nomatch z) upd_same, .non, rfl⟩⟩
        · refine ⟨_, .dct (of dp4 (fun _ z => nomatch z) (y3 _ _ k4)), .inr ⟨_, _, .non, rfl, of dp4 (fun _ z => nomatch z) (y3 _ _ k4), ?_, ?_⟩⟩ <;> rw [v4]
          · exact .non
          · rfl
        · obtain ⟨g, b1, b2, b3⟩ := hb
          refine ⟨_, .dct (of dp3 (fun _ z => nomatch z) (y3 _ _ k3)), .inr ⟨_, _, g, rfl, of dp3 (fun _ z => nomatch z) (y3 _ _ k3), ?_, ?_⟩⟩ <;> rw [valV_put, if_pos rfl]
          · exact is (b1.ext y3) b3
          · exact b2
      have u7 := u9.trans ((Up.of y3).trans u7)
      have T7 : LamX.Tabs Ts H7 := tabs_up hT u7 (fun z hz => by
        rw [List.mem_singleton.mp hz]
        obtain ⟨_, _, k, _⟩ := hp.at_
        exact ⟨_, k⟩)
      clear hodd y3 hl x3 h3 hlp pr nl nt1 nt2 e5 x2 h2 x1 h1 hb k2 k3 k4 u9 hp9
      with_reducible refine s_name ?_
      with_reducible dsimp only
      with_reducible refine s_ret ?_
      with_reducible refine s_op ?_
      refine s_lam T7 fun H8 eN T8 => ?_
      have hp8 : PenAt K p (m + 58) H8 := by
        obtain ⟨i, g, k1, k2, k3, h4, h5, h6⟩ := hp7.at_
        refine ⟨i, g, eN _ _ k1 (fun _ z => nomatch z), k2, ?_, h4, h5, h6⟩
        rcases k3 with (k3 | ⟨o, k3⟩) | k3
        · obtain ⟨a1, a2⟩ := off_get k3
          exact .inl (.inl (off_at a1 (eN _ _ a2 (fun _ z => nomatch z))))
        · obtain ⟨a1, a2⟩ := off_get k3
          exact .inl (.inr ⟨o, off_at a1 (eN _ _ a2 (fun _ z => nomatch z))⟩)
        · exact .inr k3
      have u8 : UpN [p.p] H H8 := u7.toN.trans (UpN.ofN eN)
      have a8 : SumAt C H8 a s n := ⟨ha.1, ha.2.elim fun dx e => ⟨dx, u8 _ _ (by simpa using ane hp ha) e (fun _ z => nomatch z)⟩⟩
      have o8 := (ho.ext (offN_up (UpN.ofN eN))).ext offN_le
      obtain ⟨dx, e8⟩ := a8.2
      unfold TTheard
      with_reducible dsimp only
      repeat trivial
      refine ⟨a, dx, _, rfl, e8, by rfl, ?_⟩
      repeat trivial
      obtain ⟨g, i8, w8⟩ := o8
      have fin : badSum B "numbers" H8 (heardE B T fun x H1 => tTup (tCons (tC (V.str "sum")) (tCons (tC (V.str "numbers")) tNil)) ((((((List.set (L2.start n__law_values_right [V.ref p.p, V.ref a, V.str s, V.int n]) 4 (some (V.ref d))).set 6 (some (V.ref d2))).set 7 (some (V.ref d3))).set 8 (some (V.ref d4))).set 9 (some odd))) H1 fun y H2 => rEqD K x y H2 Q) := raise_bad fun t H3 nt e3 h3 => by
        repeat trivial
        refine ⟨sl rfl, fun t2 ht2 => ?_⟩
        have x4 := ext_new (o := .tup [.str "sum", .str "numbers"]) ht2
        refine s_eqD (.tup (SqT.of (x4 _ _ h3)) (.cons (.str _) (.cons (.str _) .nil))) (.tup (SqT.of upd_same) (.cons (.str _) (.cons (.str _) .nil))) (by decide +kernel) (by decide +kernel) ?_
        rw [show PyData.eqv (.tuple [.str "sum", .str "numbers"]) (.tuple [.str "sum", .str "numbers"]) = true from by decide +kernel]
        exact q _ ((u8.trans (UpN.of e3)).trans (UpN.of x4)) ((T8.ext e3).ext x4) (((hp8.ext e3).ext x4).less (by omega))
      rcases w8 with w8 | ⟨d5, kvs, g', rfl, r1, r2, r3⟩
      · exact ⟨a, s, n, odd, g, rfl, a8, i8, .inr (.inr ⟨w8, fin⟩)⟩
      · exact ⟨a, s, n, _, g, rfl, a8, i8, .inr (.inl ⟨d5, kvs, g', rfl, r1, r2, r3, fin⟩)⟩
end
end K8
end
section
set_option linter.all false
set_option maxRecDepth 100000
set_option maxHeartbeats 400000
open PySem PySem.Spec PyProof.Rows L2 Tk PySem.NumText
namespace K8
local macro_rules | `(tactic| trivial) => `(tactic| first
  | with_reducible refine s_seq ?_
  | with_reducible refine s_asg ?_
  | with_reducible refine s_op ?_
  | with_reducible refine s_c ?_
  | with_reducible refine s_name ?_
  | with_reducible refine s_cb ?_
  | with_reducible refine s_cons ?_
  | with_reducible refine s_nil ?_
  | with_reducible refine s_call ?_
  | with_reducible refine s_ret ?_
  | with_reducible refine s_ifS ?_
  | with_reducible refine s_test ?_
  | with_reducible refine s_B ?_
  | with_reducible refine s_kB ?_
  | with_reducible refine s_kI ?_
  | with_reducible refine s_addI ?_
  | with_reducible refine s_subI ?_
  | with_reducible refine s_ltI ?_
  | with_reducible refine s_leI ?_
  | with_reducible refine s_gtI ?_
  | with_reducible refine s_geI ?_
  | with_reducible refine s_int1 ?_
  | with_reducible refine s_intB ?_
  | with_reducible refine s_abs ?_
  | with_reducible refine s_eq rfl ?_
  | with_reducible refine s_ne rfl ?_
  | with_reducible refine s_isN ?_
  | with_reducible refine s_notN ?_
  | with_reducible refine s_un ?_
  | with_reducible refine s_unI ?_
  | with_reducible refine s_and ?_
  | with_reducible refine s_or ?_
  | with_reducible refine s_not ?_
  | with_reducible refine s_andV ?_
  | with_reducible refine s_orV ?_
  | with_reducible refine s_notV ?_
  | with_reducible refine s_if ?_
  | with_reducible refine s_tup ?_
  | with_reducible refine s_lst ?_
  | with_reducible refine s_fldT ?_
  | with_reducible refine s_drop ?_
  | with_reducible refine s_sl ?_
  | with_reducible refine s_none ?_
  | with_reducible refine s_some ?_
  | with_reducible refine s_sub ?_
  | with_reducible refine s_cval ?_
  | with_reducible refine s_bm ?_
  | with_reducible refine s_m1 ?_
  | with_reducible refine s_par ?_
  | with_reducible refine s_par3 ?_
  | with_reducible refine s_raise ?_
  | with_reducible refine s_sfld ?_
  | with_reducible refine s_make ?_
  | with_reducible refine s_dget ?_
  | with_reducible refine s_dget1 ?_
  | with_reducible refine s_js ?_
  | with_reducible refine s_jn ?_
  | with_reducible refine s_fmt ?_
  | with_reducible refine s_join _ ?_
  | with_reducible refine s_xfld ?_
  | with_reducible refine s_st ?_
  | with_reducible refine s_stK ?_
  | with_reducible refine s_mtK ?_
  | with_reducible refine s_mkKw ?_
  | with_reducible refine s_meth ?_
  | with_reducible refine s_next ?_
  | ((with_reducible refine s_var (v := ?_) ?_ ?_); rotate_left; focus rfl))
/-! law, slots: 0 _law_script, 1 _law_pen_here, 2 _law_names, 3 _law_keys, 4 _law_some, 5 _law_lap, 6 _law_at, 7 _law_number_here, 8 _law_step, 9 _law_one, 10 _law_near, 11 _law_apart, 12 _law_text_here, 13 _law_bent_here, 14 _law_words, 15 _law_due, 16 _law_heard_here, 17 _law_far, 18 _law_word, 19 _law_many -/
abbrev s_law : Stmt := top 25
abbrev n_law : List Str := ["_law_script", "_law_pen_here", "_law_names", "_law_keys", "_law_some", "_law_lap", "_law_at", "_law_number_here", "_law_step", "_law_one", "_law_near", "_law_apart", "_law_text_here", "_law_bent_here", "_law_words", "_law_due", "_law_heard_here", "_law_far", "_law_word", "_law_many"]
theorem sc_law : FnScope n_law ["_law_script"] (defScope s_law) := ⟨rfl, rfl, rfl, by decide +kernel, rfl, by decide +kernel, by decide +kernel⟩
def t_law (K : PySem.W.Frag) (C B T : Addr) (Ts : List (Addr × Str)) : TS :=
  (tSeq (tAsg (tTup (tCons (tCall (spPen K) [] E0 (tCons (tVar 0) tNil)) (tCons (tLst (tCons (tC (.str "p")) (tCons (tC (.str "z0")) (tCons (tC (.str "z1")) (tCons (tC (.str "z2")) (tCons (tC (.str "z3")) (tCons (tC (.str "o")) (tCons (tC (.str "s")) tNil)))))))) (tCons (tLst tNil) (tCons (tLst tNil) tNil))))) (gTup K 4 (gCons (gName 1) (gCons (gName 2) (gCons (gName 3) (gCons (gName 4) gNil))))))
    (tSeqJ (tIfS (tOr (tTest (tOp (rNeD K) (tCB (rListOf K) (tCons (ClX.tCVal K (tC (.ref C)) "NAMES") tNil)) (tVar 2))) (tNot (tB (tCB (rIsi K) (tCons (ClX.tCVal K (tC (.ref C)) "NAMES") (tCons (tC (.ty "tuple")) tNil))))))
    (tRet (tC (.bl false)))
    tNext)
    (tSeqJ (tFor (iRng1 (tCons (tC (.int 5)) tNil)) (gName 5)
    (tSeq (tPar3 6 7 8 (tCons (tCall (spDraw K) [] E0 (tCons (tVar 1) (tCons (tC (.int 7)) tNil))) (tCons (tCall (spNumber K) [] E0 (tCons (tVar 1) tNil)) (tCons (tCall (spNumber K) [] E0 (tCons (tVar 1) tNil)) tNil))))
    (tSeq (tAsg (tIfJ (tOr (tTest (tOp rNe (tVar 7) (tC (.int 0)))) (tTest (tOp rEq (tCall (spDraw K) [] E0 (tCons (tVar 1) (tCons (tC (.int 2)) tNil))) (tC (.int 0))))) (tMake C (spInit K B C) [] E0 (tCons (tOp (rIxL K) (tVar 2) (tVar 6)) (tCons (tVar 7) tNil))) (tMake C (spInit K B C) [.int 0] E0 (tCons (tOp (rIxL K) (tVar 2) (tVar 6)) tNil))) (gName 9))
    (tSeq (tDrop (tBM K "list" rAppend (tVar 3) (tCons (tTup (tCons (tVar 6) (tCons (tVar 7) tNil))) tNil)))
    (tSeq (tDrop (tBM K "list" rAppend (tVar 4) (tCons (tVar 9) tNil)))
    (tSeq (tIfS (tTest (tOp (rNeD K) (tLst (tCons (tCall (spShown C) [] E0 (tCons (tOp (rOwnBin K C (spAdd K B C fun i j => i + j) E0) (tVar 9) (tVar 8)) tNil)) (tCons (tCall (spShown C) [] E0 (tCons (tOp (rOwnBin K C (spAdd K B C fun i j => i - j) E0) (tVar 9) (tVar 8)) tNil)) tNil))) (tLst (tCons (tTup (tCons (tOp (rIxL K) (tVar 2) (tVar 6)) (tCons (tOp rAddI (tVar 7) (tVar 8)) tNil))) (tCons (tTup (tCons (tOp (rIxL K) (tVar 2) (tVar 6)) (tCons (tOp rSubI (tVar 7) (tVar 8)) tNil))) tNil)))))
    (tRet (tC (.bl false)))
    tNext)
    (tSeq (tAsg (tCall (spPick K) [] E0 (tCons (tVar 1) (tCons (tVar 3) tNil))) (gName 10))
    (tSeq (tAsg (tMeth C "apart" (spApart K B C) [] E0 (tVar 9) (tCons (tMkKw C 2 (spInit K B C) List.reverse E0 (tCons (tOp (rIxT K) (tVar 10) (tC (.int 1))) (tCons (tOp (rIxL K) (tVar 2) (tOp (rIxT K) (tVar 10) (tC (.int 0)))) tNil))) tNil)) (gName 11))
    (tSeqJ (tIfS (tOr (tTest (tOp rNe (tVar 11) (tIfJ (tTest (tOp rEq (tOp (rIxT K) (tVar 10) (tC (.int 0))) (tVar 6))) (tOp rSubI (tVar 7) (tOp (rIxT K) (tVar 10) (tC (.int 1)))) (tC .non)))) (tB (tCB (rIsi K) (tCons (tVar 11) (tCons (tC (.ty "bool")) tNil)))))
    (tRet (tC (.bl false)))
    tNext)
    (tSeq (tAsg (tCall spText [] E0 (tCons (tOp (rIxL K) (tVar 2) (tVar 6)) (tCons (tVar 7) tNil))) (gName 12))
    (tSeqJ (tIfS (tOr (tTest (tOp rNe (tCB (rStrOwn C (spStr C) E0) (tCons (tVar 9) tNil)) (tVar 12))) (tTest (tOp (rNeD K) (tCall (spShown C) [] E0 (tCons (tSt C (spRead K T C) E0 (tC (.ref C)) (tCons (tVar 12) tNil)) tNil)) (tTup (tCons (tOp (rIxL K) (tVar 2) (tVar 6)) (tCons (tVar 7) tNil))))))
    (tRet (tC (.bl false)))
    tNext)
    (tSeq (tAsg (tCall (spBent K) [] E0 (tCons (tVar 1) (tCons (tVar 12) tNil))) (gName 13))
    (tSeq (tAsg (tM1 rSplit (tVar 13) (tC (.str " "))) (gName 14))
    (tSeq (tAsg (tIfJ (tTest (tOp rIsN (tCall spTold [] E0 (tCons (tOp (rIxL K) (tVar 14) (tC (.int 0))) tNil)) (tC .non))) (tTup (tCons (tC (.int 0)) (tCons (tC (.int 0)) tNil))) (tTup (tCons (tC (.int 0)) (tCons (tC (.int 1)) tNil)))) (gName 15))
    (tSeq (tAsg (LamX.tLam Ts (TTheard B T) fun E' => (tStK C 1 (spRead K T C) E' (tC (.ref C)) (tCons (tVar 13) tNil))) (gName 16))
    (tSeqJ (tIfS (tAnd (tTest (tOp (rEqD K) (tVar 15) (tTup (tCons (tC (.int 0)) (tCons (tC (.int 1)) tNil))))) (tTest (tOp rEq (tCB (rLenQ K) (tCons (tVar 14) tNil)) (tC (.int 1)))))
    (tIfS (tOr (tNot (tB (tCB (rIsi K) (tCons (tVar 16) (tCons (tC (.ty "list")) tNil))))) (tOr (tTest (tOp (rNeD K) (tCall (spShown C) [] E0 (tCons (tOp (rIxL K) (tVar 16) (tC (.int 0))) tNil)) (tCall spTold [] E0 (tCons (tVar 13) tNil)))) (tTest (tOp rNe (tCB (rStrOwn C (spStr C) E0) (tCons (tOp (rIxL K) (tVar 16) (tC (.int 0))) tNil)) (tVar 13)))))
    (tRet (tC (.bl false)))
    tNext)
    (tIfS (tTest (tOp (rNeD K) (tVar 16) (tVar 15)))
    (tRet (tC (.bl false)))
    tNext))
    (tSeqJ (tIfS (tOr (tNot (tB (tCall (spValues K C Ts) [] E0 (tCons (tVar 1) (tCons (tVar 9) (tCons (tOp (rIxL K) (tVar 2) (tVar 6)) (tCons (tVar 7) tNil))))))) (tNot (tB (tCall (spRefused K C Ts) [] E0 (tCons (tVar 1) (tCons (tVar 9) tNil))))))
    (tRet (tC (.bl false)))
    tNext)
    (tIfS (tTest (tOp (rNeD K) (LamX.tLam Ts (TTheard B T) fun E' => (tSt C (spRead K T C) E' (tC (.ref C)) (tCons (tCall (spPick K) [] E0 (tCons (tVar 1) (tCons (tLst (tCons (tC .non) (tCons (tC (.int 0)) (tCons (tC (.bl true)) (tCons (tLst (tCons (tC (.str "p")) tNil)) (tCons (tTup (tCons (tC (.str "p")) tNil)) (tCons tDNewK (tCons (tVar 9) tNil)))))))) tNil))) tNil))) (tTup (tCons (tC (.int 0)) (tCons (tC (.int 0)) tNil)))))
    (tRet (tC (.bl false)))
    tNext))))))))))))))))))
    (tSeqJ (tIfS (tOr (tTest (tOp (rEqOff K C (okOff K C)) (tVar 9) (tOp (rIxL K) (tVar 2) (tVar 6)))) (tOr (tTest (tOp (rEqOff K C (okOff K C)) (tVar 9) (tTup (tCons (tOp (rIxL K) (tVar 2) (tVar 6)) (tCons (tVar 7) tNil))))) (tTest (tOp (rEqOff K C (okOff K C)) (tVar 9) (tC .non)))))
    (tRet (tC (.bl false)))
    tNext)
    (tSeq (tAsg (tOp rAddSt (tOp rAddSt (tCall (spPick K) [] E0 (tCons (tVar 1) (tCons (tVar 2) tNil))) (tCall (spPick K) [] E0 (tCons (tVar 1) (tCons (tLst (tCons (tC (.str "+")) (tCons (tC (.str "-")) tNil))) tNil)))) (tOp rMulS (tC (.str "9")) (tOp rAddI (tC (.int 61)) (tCall (spDraw K) [] E0 (tCons (tVar 1) (tCons (tC (.int 5000)) tNil)))))) (gName 17))
    (tSeqJ (tFor (iList K (tLst (tCons (tVar 17) (tCons (tOp rAddSt (tC (.str "p+")) (tOp rMulS (tC (.str "9")) (tC (.int 5000)))) (tCons (tOp rAddSt (tC (.str "z0-")) (tOp rMulS (tC (.str "1")) (tC (.int 4301)))) tNil))))) (gName 18)
    (tIfS (tTest (tOp (rNeD K) (LamX.tLam Ts (TTheard B T) fun E' => (tSt C (spRead K T C) E' (tC (.ref C)) (tCons (tVar 18) tNil))) (tTup (tCons (tC (.int 0)) (tCons (tC (.int 0)) tNil)))))
    (tRet (tC (.bl false)))
    tNext))
    (tRet (tAndV (tCall (spOrder K C) [] E0 (tCons (tVar 3) (tCons (tVar 4) tNil))) (tOp (rEqD K) (tLc (iList K (tVar 4)) (gName 9) tYes (tCall (spShown C) [] E0 (tCons (tVar 9) tNil)) [9]) (tLc (iList K (tVar 3)) (gTup K 2 (gCons (gName 6) (gCons (gName 19) gNil))) tYes (tTup (tCons (tOp (rIxL K) (tVar 2) (tVar 6)) (tCons (tVar 19) tNil))) [6, 19]))))))))))
theorem tm_law {P : Program} {w : World} {K : PySem.W.Frag} {mg : Str → Option Value} {base : Heap} {f : Addr} {cdv : Value} {A : Around} {outer : List Env} {s : Shared} {H : Hp} {E : XK} {C B T : Addr} {Ts : List (Addr × Str)} (c__law_pen : Cl P w K mg base 2 "_law_pen" (spPen K) []) (b_list : mg "list" = none) (g_Sum : ∃ u, mg "Sum" = some u ∧ RelV (.ref C) u) (b_isinstance : mg "isinstance" = none) (b_tuple : mg "tuple" = none) (b_range : mg "range" = none) (c__law_draw : Cl P w K mg base 2 "_law_draw" (spDraw K) []) (c__law_number : Cl P w K mg base 3 "_law_number" (spNumber K) []) (m_Sum2 : Mkr P w K mg base 3 "Sum" C (spInit K B C) []) (m_Sum1 : Mkr P w K mg base 3 "Sum" C (spInit K B C) [.int 0]) (o_Sum_Sub : OM P w K mg base 5 C "__sub__" (spAdd K B C fun i j => i - j)) (b_Sum_Sub : OwnBin K C "sub") (c__law_shown : Cl P w K mg base 2 "_law_shown" (spShown C) []) (o_Sum_Add : OM P w K mg base 5 C "__add__" (spAdd K B C fun i j => i + j)) (b_Sum_Add : OwnBin K C "add") (c__law_pick : Cl P w K mg base 3 "_law_pick" (spPick K) []) (m_Sum_K : MkK P w K mg base 3 "Sum" C (spInit K B C) ["number", "source"] List.reverse) (c_Sum_apart : Mth P w K mg base 2 C "apart" (spApart K B C) []) (b_bool : mg "bool" = none) (c__law_text : Cl P w K mg base 2 "_law_text" spText []) (b_str : mg "str" = none) (o_Sum__str__ : OM P w K mg base 3 C "__str__" (spStr C)) (c_Sum_read : StC P w K mg base 6 C "read" (spRead K T C)) (c__law_bent : Cl P w K mg base 4 "_law_bent" (spBent K) []) (c__law_told : Cl P w K mg base 2 "_law_told" spTold []) (h_heard : HeardF P w K mg B T) (c_Sum_read_K : StK P w K mg base 6 C "read" (spRead K T C) ["text"]) (b_len : mg "len" = none) (c__law_values_right : Cl P w K mg base 8 "_law_values_right" (spValues K C Ts) []) (c__law_refused_right : Cl P w K mg base 8 "_law_refused_right" (spRefused K C Ts) []) (off_Sum : ∃ g, PySem.W.findIn K (.ref C) "__eq__" = some (some (.ref g)) ∧ PySem.W.isFn K (.ref g) = true ∧ NiR P w K mg base 2 g (okOff K C)) (offC_Sum : OffC K C) (c__law_order_right : Cl P w K mg base 5 "_law_order_right" (spOrder K C) []) (hlam : LamF base mg cdv ((envOfC "law" (defScope s_law) 0 0 cdv).qual ++ "<lambda>") Ts)
    (hr : Room 9 (A.deeper (envOfC "law" (defScope s_law) s.heap.objs.size f cdv))) : PSs (cxOf (L2.CX P w) P w K mg base n_law "law" (defScope s_law) f cdv A outer s H E).nox (defBody s_law) (t_law K C B T Ts) := by
  have hu64 := hr_u64 hr
  unfold t_law
  refine pss_cons ?_ ?_
  · exact (ps_asg (pe_tup (pa_cons (pe_cl c__law_pen hr (by decide) (by rfl) passL (pa_cons (pv 0) pa_nil)) (pa_cons (pe_lst (pa_cons pe_str (pa_cons pe_str (pa_cons pe_str (pa_cons pe_str (pa_cons pe_str (pa_cons pe_str (pa_cons pe_str pa_nil)))))))) (pa_cons (pe_lst pa_nil) (pa_cons (pe_lst pa_nil) pa_nil))))) (pg_tup rfl (pgs_cons (pg_name (i := 1) sc_law.nd rfl (Or.inr (by rfl))) (pgs_cons (pg_name (i := 2) sc_law.nd rfl (by first | exact Or.inl (by rfl) | exact Or.inr (by rfl))) (pgs_cons (pg_name (i := 3) sc_law.nd rfl (by first | exact Or.inl (by rfl) | exact Or.inr (by rfl))) (pgs_cons (pg_name (i := 4) sc_law.nd rfl (by first | exact Or.inl (by rfl) | exact Or.inr (by rfl))) pgs_nil))))))
  refine pss_consJ ?_ ?_
  · exact (ps_if (PW.pt (pw_or (pt_cmpR (op_neD hu64) (pe_callTy call_listOf (by rfl) b_list (by decide +kernel) (pa_cons (ClX.pe_cval (C8.pe_gc (by rfl) g_Sum)) pa_nil)) (pv 2) (nomark _)) (pw_or1 (pt_not (pt_val (pe_callB call_isi (by rfl) b_isinstance (by decide +kernel) (pa_cons (ClX.pe_cval (C8.pe_gc (by rfl) g_Sum)) (pa_cons (pe_bltn (by rfl) b_tuple (by decide +kernel) rfl) pa_nil))))))))
    (pss_one (ps_ret pe_bl))
    pss_nil)
  refine pss_consJ ?_ ?_
  · exact (ps_for PassesOwn.never rfl (pi_range1 (by rfl) b_range (pa_cons pe_int pa_nil)) (pg_name (i := 5) sc_law.nd rfl (by first | exact Or.inl (by rfl) | exact Or.inr (by rfl)))
    (pss_cons (ps_par3 (i := 6) (j := 7) (l := 8) (by rfl) sc_law.nd (by rfl) (by rfl) (by rfl) (by decide) (by decide) (by decide) (by rfl) (by rfl) (by rfl) (pa_cons (pe_cl c__law_draw hr (by decide) (by rfl) passL (pa_cons (pv 1) (pa_cons pe_int pa_nil))) (pa_cons (pe_cl c__law_number hr (by decide) (by rfl) passL (pa_cons (pv 1) pa_nil)) (pa_cons (pe_cl c__law_number hr (by decide) (by rfl) passL (pa_cons (pv 1) pa_nil)) pa_nil))) (by rfl))
    (pss_cons (ps_set (i := 9) sc_law.nd rfl (Or.inr (by rfl)) (pe_ifJ (PW.pt (pw_or (pt_cmpR op_ne (pv 7) pe_int (nomark _)) (pw_or1 (pt_cmpR op_eq (pe_cl c__law_draw hr (by decide) (by rfl) passL (pa_cons (pv 1) (pa_cons pe_int pa_nil))) pe_int (nomark _))))) (pe_mkr m_Sum2 hr (by decide) (by rfl) passL (pa_cons (pe_ix ix_list (pv 2) (pv 6) (fun _ _ => rfl)) (pa_cons (pv 7) pa_nil))) (pe_mkr m_Sum1 hr (by decide) (by rfl) passL (pa_cons (pe_ix ix_list (pv 2) (pv 6) (fun _ _ => rfl)) pa_nil))))
    (pss_cons (ps_expr (pe_bm PySem.F.plainAttrs_list PySem.F.slot_list_append PySem.F.type_list_append mt_append (pv 3) (pa_cons (pe_tup (pa_cons (pv 6) (pa_cons (pv 7) pa_nil))) pa_nil)))
    (pss_cons (ps_expr (pe_bm PySem.F.plainAttrs_list PySem.F.slot_list_append PySem.F.type_list_append mt_append (pv 4) (pa_cons (pv 9) pa_nil)))
    (pss_cons (ps_if (pt_cmpR (op_neD hu64) (pe_lst (pa_cons (pe_cl c__law_shown hr (by decide) (by rfl) passL (pa_cons (pe_op (oOwnBin o_Sum_Add b_Sum_Add hr (by decide) passL) (pv 9) (pv 8)) pa_nil)) (pa_cons (pe_cl c__law_shown hr (by decide) (by rfl) passL (pa_cons (pe_op (oOwnBin o_Sum_Sub b_Sum_Sub hr (by decide) passL) (pv 9) (pv 8)) pa_nil)) pa_nil))) (pe_lst (pa_cons (pe_tup (pa_cons (pe_ix ix_list (pv 2) (pv 6) (fun _ _ => rfl)) (pa_cons (pe_op oAddI (pv 7) (pv 8)) pa_nil))) (pa_cons (pe_tup (pa_cons (pe_ix ix_list (pv 2) (pv 6) (fun _ _ => rfl)) (pa_cons (pe_op oSubI (pv 7) (pv 8)) pa_nil))) pa_nil))) (nomark _))
    (pss_one (ps_ret pe_bl))
    pss_nil)
    (pss_cons (ps_set (i := 10) sc_law.nd rfl (by first | exact Or.inl (by rfl) | exact Or.inr (by rfl)) (pe_cl c__law_pick hr (by decide) (by rfl) passL (pa_cons (pv 1) (pa_cons (pv 3) pa_nil))))
    (pss_cons (ps_set (i := 11) sc_law.nd rfl (by first | exact Or.inl (by rfl) | exact Or.inr (by rfl)) (pe_mth c_Sum_apart hr (by decide) passL (pv 9) (pa_cons (pe_mkKw (ks := ["number", "source"]) m_Sum_K hr (by decide) (by rfl) passL (pk_cons (pe_ix ix_tup (pv 10) pe_int (fun _ _ => rfl)) (pk_cons (pe_ix ix_list (pv 2) (pe_ix ix_tup (pv 10) pe_int (fun _ _ => rfl)) (fun _ _ => rfl)) pk_nil))) pa_nil)))
    (pss_consJ (ps_if (PW.pt (pw_or (pt_cmpR op_ne (pv 11) (pe_ifJ (pt_cmpR op_eq (pe_ix ix_tup (pv 10) pe_int (fun _ _ => rfl)) (pv 6) (nomark _)) (pe_op oSubI (pv 7) (pe_ix ix_tup (pv 10) pe_int (fun _ _ => rfl))) pe_non) (nomark _)) (pw_or1 (pt_val (pe_callB call_isi (by rfl) b_isinstance (by decide +kernel) (pa_cons (pv 11) (pa_cons (pe_bltn (by rfl) b_bool (by decide +kernel) rfl) pa_nil)))))))
    (pss_one (ps_ret pe_bl))
    pss_nil)
    (pss_cons (ps_set (i := 12) sc_law.nd rfl (by first | exact Or.inl (by rfl) | exact Or.inr (by rfl)) (pe_cl c__law_text hr (by decide) (by rfl) passL (pa_cons (pe_ix ix_list (pv 2) (pv 6) (fun _ _ => rfl)) (pa_cons (pv 7) pa_nil))))
    (pss_consJ (ps_if (PW.pt (pw_or (pt_cmpR op_ne (pe_callTy (call_strOwn o_Sum__str__ hr (by decide) passL) (by rfl) b_str (by decide +kernel) (pa_cons (pv 9) pa_nil)) (pv 12) (nomark _)) (pw_or1 (pt_cmpR (op_neD hu64) (pe_cl c__law_shown hr (by decide) (by rfl) passL (pa_cons (pe_st c_Sum_read hr (by decide) passL (C8.pe_gc (by rfl) g_Sum) (pa_cons (pv 12) pa_nil)) pa_nil)) (pe_tup (pa_cons (pe_ix ix_list (pv 2) (pv 6) (fun _ _ => rfl)) (pa_cons (pv 7) pa_nil))) (nomark _)))))
    (pss_one (ps_ret pe_bl))
    pss_nil)
    (pss_cons (ps_set (i := 13) sc_law.nd rfl (Or.inr (by rfl)) (pe_cl c__law_bent hr (by decide) (by rfl) passL (pa_cons (pv 1) (pa_cons (pv 12) pa_nil))))
    (pss_cons (ps_set (i := 14) sc_law.nd rfl (by first | exact Or.inl (by rfl) | exact Or.inr (by rfl)) (pe_m1 PySem.F.slot_str_split PySem.F.type_str_split mt_splitN (pv 13) pe_str))
    (pss_cons (ps_set (i := 15) sc_law.nd rfl (by first | exact Or.inl (by rfl) | exact Or.inr (by rfl)) (pe_ifJ (pt_cmpR op_isN1 (pe_cl c__law_told hr (by decide) (by rfl) passL (pa_cons (pe_ix ix_list (pv 14) pe_int (fun _ _ => rfl)) pa_nil)) pe_non (nomark _)) (pe_tup (pa_cons pe_int (pa_cons pe_int pa_nil))) (pe_tup (pa_cons pe_int (pa_cons pe_int pa_nil)))))
    (pss_cons (ps_set (i := 16) sc_law.nd rfl (by first | exact Or.inl (by rfl) | exact Or.inr (by rfl)) (pe_heard h_heard hlam (by rfl) hr (by rfl) (LamX.lamS_by (sc := defScope s_law) (by decide +kernel)) (by rfl) (fun _ _ _ _ _ => by rfl) (fun A' outer' s' H' E' f' c' hr => (pe_stK (ks := ["text"]) c_Sum_read_K hr (by decide) lam_pass (C8.pe_gc (by rfl) g_Sum) (pk_cons (pv 13) pk_nil)))))
    (pss_consJ (ps_if (PW.pt (pw_and (pt_cmpR (op_eqD hu64) (pv 15) (pe_tup (pa_cons pe_int (pa_cons pe_int pa_nil))) (nomark _)) (pw_and1 (pt_cmpR op_eq (pe_callB call_lenQ (by rfl) b_len (by decide +kernel) (pa_cons (pv 14) pa_nil)) pe_int (nomark _)))))
    (pss_one (ps_if (PW.pt (pw_or (pt_not (pt_val (pe_callB call_isi (by rfl) b_isinstance (by decide +kernel) (pa_cons (pv 16) (pa_cons (pe_bltn (by rfl) b_list (by decide +kernel) rfl) pa_nil))))) (pw_or (pt_cmpR (op_neD hu64) (pe_cl c__law_shown hr (by decide) (by rfl) passL (pa_cons (pe_ix ix_list (pv 16) pe_int (fun _ _ => rfl)) pa_nil)) (pe_cl c__law_told hr (by decide) (by rfl) passL (pa_cons (pv 13) pa_nil)) (nomark _)) (pw_or1 (pt_cmpR op_ne (pe_callTy (call_strOwn o_Sum__str__ hr (by decide) passL) (by rfl) b_str (by decide +kernel) (pa_cons (pe_ix ix_list (pv 16) pe_int (fun _ _ => rfl)) pa_nil)) (pv 13) (nomark _))))))
    (pss_one (ps_ret pe_bl))
    pss_nil))
    (pss_one (ps_if (pt_cmpR (op_neD hu64) (pv 16) (pv 15) (nomark _))
    (pss_one (ps_ret pe_bl))
    pss_nil)))
    (pss_consJ (ps_if (PW.pt (pw_or (pt_not (pt_val (pe_cl c__law_values_right hr (by decide) (by rfl) passL (pa_cons (pv 1) (pa_cons (pv 9) (pa_cons (pe_ix ix_list (pv 2) (pv 6) (fun _ _ => rfl)) (pa_cons (pv 7) pa_nil))))))) (pw_or1 (pt_not (pt_val (pe_cl c__law_refused_right hr (by decide) (by rfl) passL (pa_cons (pv 1) (pa_cons (pv 9) pa_nil))))))))
    (pss_one (ps_ret pe_bl))
    pss_nil)
    (pss_one (ps_if (pt_cmpR (op_neD hu64) (pe_heard h_heard hlam (by rfl) hr (by rfl) (LamX.lamS_by (sc := defScope s_law) (by decide +kernel)) (by rfl) (fun _ _ _ _ _ => by rfl) (fun A' outer' s' H' E' f' c' hr => (pe_st c_Sum_read hr (by decide) lam_pass (C8.pe_gc (by rfl) g_Sum) (pa_cons (pe_cl c__law_pick hr (by decide) (by rfl) passL (pa_cons (pv 1) (pa_cons (pe_lst (pa_cons pe_non (pa_cons pe_int (pa_cons pe_bl (pa_cons (pe_lst (pa_cons pe_str pa_nil)) (pa_cons (pe_tup (pa_cons pe_str pa_nil)) (pa_cons pe_dnewK (pa_cons (pv 9) pa_nil)))))))) pa_nil))) pa_nil)))) (pe_tup (pa_cons pe_int (pa_cons pe_int pa_nil))) (nomark _))
    (pss_one (ps_ret pe_bl))
    pss_nil)))))))))))))))))))
  refine pss_consJ ?_ ?_
  · exact (ps_if (PW.pt (pw_or (pt_cmpR (oEqOff off_Sum offC_Sum hr (by decide)) (pv 9) (pe_ix ix_list (pv 2) (pv 6) (fun _ _ => rfl)) (nomark _)) (pw_or (pt_cmpR (oEqOff off_Sum offC_Sum hr (by decide)) (pv 9) (pe_tup (pa_cons (pe_ix ix_list (pv 2) (pv 6) (fun _ _ => rfl)) (pa_cons (pv 7) pa_nil))) (nomark _)) (pw_or1 (pt_cmpR (oEqOff off_Sum offC_Sum hr (by decide)) (pv 9) pe_non (nomark _))))))
    (pss_one (ps_ret pe_bl))
    pss_nil)
  refine pss_cons ?_ ?_
  · exact (ps_set (i := 17) sc_law.nd rfl (by first | exact Or.inl (by rfl) | exact Or.inr (by rfl)) (pe_op oAddS (pe_op oAddS (pe_cl c__law_pick hr (by decide) (by rfl) passL (pa_cons (pv 1) (pa_cons (pv 2) pa_nil))) (pe_cl c__law_pick hr (by decide) (by rfl) passL (pa_cons (pv 1) (pa_cons (pe_lst (pa_cons pe_str (pa_cons pe_str pa_nil))) pa_nil)))) (pe_op oMulS pe_str (pe_op oAddI pe_int (pe_cl c__law_draw hr (by decide) (by rfl) passL (pa_cons (pv 1) (pa_cons pe_int pa_nil)))))))
  refine pss_consJ ?_ ?_
  · exact (ps_for PassesOwn.never rfl (pi_list (pe_lst (pa_cons (pv 17) (pa_cons (pe_op oAddS pe_str (pe_op oMulS pe_str pe_int)) (pa_cons (pe_op oAddS pe_str (pe_op oMulS pe_str pe_int)) pa_nil))))) (pg_name (i := 18) sc_law.nd rfl (Or.inr (by rfl)))
    (pss_one (ps_if (pt_cmpR (op_neD hu64) (pe_heard h_heard hlam (by rfl) hr (by rfl) (LamX.lamS_by (sc := defScope s_law) (by decide +kernel)) (by rfl) (fun _ _ _ _ _ => by rfl) (fun A' outer' s' H' E' f' c' hr => (pe_st c_Sum_read hr (by decide) lam_pass (C8.pe_gc (by rfl) g_Sum) (pa_cons (pv 18) pa_nil)))) (pe_tup (pa_cons pe_int (pa_cons pe_int pa_nil))) (nomark _))
    (pss_one (ps_ret pe_bl))
    pss_nil)))
  exact (pss_one (ps_ret (pe_and (pe_cl c__law_order_right hr (by decide) (by rfl) passL (pa_cons (pv 3) (pa_cons (pv 4) pa_nil))) (pe_one (pe_cmpR (op_eqD hu64) (pe_lc (own := [("_law_one", 9)]) (g := (gName 9)) (tt := tYes) rfl sc_law.nd (pi_list (pv 4)) (blkOk_by (own := [("_law_one", 9)]) (N := n_law) (sc := defScope s_law) (by decide +kernel)) (fun _ _ _ _ _ => (pg_name (i := 9) sc_law.nd rfl (Or.inl (by rfl)))) (fun _ _ _ _ _ => pts_nil) (fun _ _ _ _ _ => (pe_cl c__law_shown hr (by decide) (by rfl) passL (pa_cons (pv 9) pa_nil)))) (pe_lc (own := [("_law_at", 6), ("_law_many", 19)]) (g := (gTup K 2 (gCons (gName 6) (gCons (gName 19) gNil)))) (tt := tYes) rfl sc_law.nd (pi_list (pv 3)) (blkOk_by (own := [("_law_at", 6), ("_law_many", 19)]) (N := n_law) (sc := defScope s_law) (by decide +kernel)) (fun _ _ _ _ _ => (pg_tup rfl (pgs_cons (pg_name (i := 6) sc_law.nd rfl (Or.inl (by rfl))) (pgs_cons (pg_name (i := 19) sc_law.nd rfl (Or.inl (by rfl))) pgs_nil)))) (fun _ _ _ _ _ => pts_nil) (fun _ _ _ _ _ => (pe_tup (pa_cons (pe_ix ix_list (pv 2) (pv 6) (fun _ _ => rfl)) (pa_cons (pv 19) pa_nil))))) (nomark _))))))

end K8
end
section
set_option linter.all false
set_option maxRecDepth 100000
set_option maxHeartbeats 1000000
open PySem PySem.Spec PyProof.Rows L2 Tk PySem.NumText
namespace K8
local macro_rules | `(tactic| trivial) => `(tactic| first
  | with_reducible refine s_seq ?_
  | with_reducible refine s_asg ?_
  | with_reducible refine s_op ?_
  | with_reducible refine s_c ?_
  | with_reducible refine s_name ?_
  | with_reducible refine s_cb ?_
  | with_reducible refine s_cons ?_
  | with_reducible refine s_nil ?_
  | with_reducible refine s_call ?_
  | with_reducible refine s_ret ?_
  | with_reducible refine s_ifS ?_
  | with_reducible refine s_test ?_
  | with_reducible refine s_B ?_
  | with_reducible refine s_kB ?_
  | with_reducible refine s_kI ?_
  | with_reducible refine s_addI ?_
  | with_reducible refine s_subI ?_
  | with_reducible refine s_ltI ?_
  | with_reducible refine s_leI ?_
  | with_reducible refine s_gtI ?_
  | with_reducible refine s_geI ?_
  | with_reducible refine s_int1 ?_
  | with_reducible refine s_intB ?_
  | with_reducible refine s_abs ?_
  | with_reducible refine s_eq rfl ?_
  | with_reducible refine s_ne rfl ?_
  | with_reducible refine s_isN ?_
  | with_reducible refine s_notN ?_
  | with_reducible refine s_un ?_
  | with_reducible refine s_unI ?_
  | with_reducible refine s_and ?_
  | with_reducible refine s_or ?_
  | with_reducible refine s_not ?_
  | with_reducible refine s_andV ?_
  | with_reducible refine s_orV ?_
  | with_reducible refine s_notV ?_
  | with_reducible refine s_if ?_
  | with_reducible refine s_tup ?_
  | with_reducible refine s_lst ?_
  | with_reducible refine s_fldT ?_
  | with_reducible refine s_drop ?_
  | with_reducible refine s_sl ?_
  | with_reducible refine s_none ?_
  | with_reducible refine s_some ?_
  | with_reducible refine s_sub ?_
  | with_reducible refine s_cval ?_
  | with_reducible refine s_bm ?_
  | with_reducible refine s_m1 ?_
  | with_reducible refine s_par ?_
  | with_reducible refine s_par3 ?_
  | with_reducible refine s_raise ?_
  | with_reducible refine s_sfld ?_
  | with_reducible refine s_make ?_
  | with_reducible refine s_dget ?_
  | with_reducible refine s_dget1 ?_
  | with_reducible refine s_js ?_
  | with_reducible refine s_jn ?_
  | with_reducible refine s_fmt ?_
  | with_reducible refine s_join _ ?_
  | with_reducible refine s_xfld ?_
  | with_reducible refine s_st ?_
  | with_reducible refine s_stK ?_
  | with_reducible refine s_mtK ?_
  | with_reducible refine s_mkKw ?_
  | with_reducible refine s_meth ?_
  | with_reducible refine s_next ?_
  | ((with_reducible refine s_var (v := ?_) ?_ ?_); rotate_left; focus rfl))
section
variable {K : PySem.W.Frag} {C B T : Addr} {Ts : List (Addr × Str)}
theorem et {A B C : Hp} (e : Ext A B) (f : Ext B C) : Ext A C := fun b o z => f _ _ (e _ _ z)
theorem paired_left {α β : Type} {F : α → β → Prop} : ∀ {l₁ : List α} {l₂ : List β}, Paired F l₁ l₂ → ∀ a ∈ l₁, ∃ b, F a b
  | _, _, .nil, a, h => nomatch h
  | _, _, .cons r t, a, h => by
    rcases List.mem_cons.mp h with rfl | h
    · exact ⟨_, r⟩
    · exact paired_left t a h
theorem s_neDs {x y : V} {d : PyData} {H : Hp} {Q : VK} (h1 : Dp K H x d) (h2 : Dp K H y d) (sh : SeqAt.shaped d = true) (q : Q (.bl false) H) : rNeD K x y H Q :=
  s_neD h1 h2 sh sh (by rw [PySem.SeqAt.eqv_refl d (Bool.and_eq_true_iff.mp sh).1]; exact q)
theorem s_eqDs {x y : V} {d : PyData} {H : Hp} {Q : VK} (h1 : Dp K H x d) (h2 : Dp K H y d) (sh : SeqAt.shaped d = true) (q : Q (.bl true) H) : rEqD K x y H Q :=
  s_eqD h1 h2 sh sh (by rw [PySem.SeqAt.eqv_refl d (Bool.and_eq_true_iff.mp sh).1]; exact q)
theorem name_at {d : Int} (h0 : 0 ≤ d) (h1 : d < 7) : ∃ s, names.contains s = true ∧ rankOf s = d ∧ atI (names.map V.str) d = some (.str s) := by
  have : d = 0 ∨ d = 1 ∨ d = 2 ∨ d = 3 ∨ d = 4 ∨ d = 5 ∨ d = 6 := by omega
  rcases this with rfl | rfl | rfl | rfl | rfl | rfl | rfl
  · exact ⟨"p", by decide, by decide, rfl⟩
  · exact ⟨"z0", by decide, by decide, rfl⟩
  · exact ⟨"z1", by decide, by decide, rfl⟩
  · exact ⟨"z2", by decide, by decide, rfl⟩
  · exact ⟨"z3", by decide, by decide, rfl⟩
  · exact ⟨"o", by decide, by decide, rfl⟩
  · exact ⟨"s", by decide, by decide, rfl⟩
theorem at_name {s : Str} (h : names.contains s = true) : atI (names.map V.str) (rankOf s) = some (.str s) := by
  refine names_cases (P := fun s => atI (names.map V.str) (rankOf s) = some (.str s)) h ?_ ?_ ?_ ?_ ?_ ?_ ?_ <;> decide +kernel
theorem rank_inj {s t : Str} (h : names.contains s = true) (k : names.contains t = true) (e : rankOf s = rankOf t) : s = t := by
  have a := at_name h
  rw [e, at_name k] at a
  exact (V.str.inj (Option.some.inj a)).symm
theorem name_ok {s : Str} (h : names.contains s = true) : sOk s ∧ s.length ≤ 2 := by
  refine names_cases (P := fun s => sOk s ∧ s.length ≤ 2) h ?_ ?_ ?_ ?_ ?_ ?_ ?_ <;> decide +kernel
theorem split_ok {w y u : Str} {r : List Str} (e : Txt.split w y = u :: r) (h : sOk w) : sOk u := by
  have j := PySem.StrLaws.join_split w y
  rw [e] at j
  cases r with
  | nil => rw [show u = w from j]; exact h
  | cons v r =>
    have k : u ++ y ++ Str.join y (v :: r) = w := j
    intro c hc
    refine h c ?_
    rw [← k, cps_app, cps_app]
    exact List.mem_append.mpr (.inl (List.mem_append.mpr (.inl hc)))
theorem name_blank {s : Str} (h : names.contains s = true) : 32 ∉ s.cps.toList := by
  refine names_cases (P := fun s => 32 ∉ s.cps.toList) h ?_ ?_ ?_ ?_ ?_ ?_ ?_ <;> decide +kernel
theorem W_blank {w s : Str} {n : Int} (h : W w s n) : 32 ∉ w.cps.toList := by
  obtain ⟨r, e, k⟩ := h.cut
  have hs := name_blank h.2.1
  rw [e]
  intro z
  rcases List.mem_append.mp z with z | z
  · exact hs z
  · rcases k with ⟨rfl, _⟩ | ⟨c, ds, rfl, g, k⟩
    · cases z
    · rcases List.mem_cons.mp z with z | z
      · rcases k with ⟨rfl, _⟩ | ⟨rfl, _⟩ <;> cases z
      · have := g.1 32 z; omega
theorem W_split {w s : Str} {n : Int} (h : W w s n) : Txt.split w " " = [w] := by
  obtain ⟨u, r, e, _, k⟩ := split_cons w " "
  cases r with
  | nil => rw [e, k rfl]
  | cons v r =>
    have j := PySem.StrLaws.join_split w " "
    rw [e] at j
    have k : u ++ " " ++ Str.join " " (v :: r) = w := j
    refine absurd ?_ (W_blank h)
    rw [← k, cps_app, cps_app]
    exact List.mem_append.mpr (.inl (List.mem_append.mpr (.inr (by decide +kernel))))
theorem W_ok {w s : Str} {n : Int} (h : W w s n) : sOk w ∧ w.length ≤ 100 := by
  obtain ⟨r, e, k⟩ := h.cut
  obtain ⟨o, l⟩ := name_ok h.2.1
  have e1 : w.length = w.cps.toList.length := Array.length_toList.symm
  have e2 : s.length = s.cps.toList.length := Array.length_toList.symm
  have hr : r.length ≤ 61 ∧ ∀ c ∈ r, c < 1114112 := by
    rcases k with ⟨rfl, _⟩ | ⟨c, ds, rfl, g, k⟩
    · exact ⟨Nat.zero_le _, fun c z => nomatch z⟩
    · refine ⟨by rw [List.length_cons]; have := g.2.2.1; omega, fun c' z => ?_⟩
      rcases List.mem_cons.mp z with z | z
      · rcases k with ⟨rfl, _⟩ | ⟨rfl, _⟩ <;> omega
      · have := g.1 c' z; omega
  refine ⟨fun c hc => ?_, ?_⟩
  · rw [e] at hc
    rcases List.mem_append.mp hc with hc | hc
    · exact o c hc
    · exact hr.2 c hc
  · rw [e1, e, List.length_append, ← e2]; omega
theorem text_ok {s : Str} {n : Int} (h : names.contains s = true) (hn : n.natAbs < 10 ^ 60) : sOk (textOf s n) ∧ (textOf s n).length ≤ 100 := W_ok (textOf_W h hn)
theorem PenAt.extN {p : Pn} {n : Nat} {H H' : Hp} (h : PenAt K p n H) (eN : LamX.ExtN H H') : PenAt K p n H' := by
  obtain ⟨i, g, k1, k2, k3, h4, h5, h6⟩ := h.at_
  refine ⟨i, g, eN _ _ k1 (fun _ z => nomatch z), k2, ?_, h4, h5, h6⟩
  rcases k3 with (k3 | ⟨o, k3⟩) | k3
  · obtain ⟨a1, a2⟩ := off_get k3
    exact .inl (.inl (off_at a1 (eN _ _ a2 (fun _ z => nomatch z))))
  · obtain ⟨a1, a2⟩ := off_get k3
    exact .inl (.inr ⟨o, off_at a1 (eN _ _ a2 (fun _ z => nomatch z))⟩)
  · exact .inr k3
theorem pen_ne {p : Pn} {n : Nat} {H : Hp} {D : Addr} (h : PenAt K p n H) (hD : ∃ o, H D = some o ∧ ∀ l i g, o ≠ .lst [.ref l, .int i, .int g]) : D ≠ p.p := fun z => by
  obtain ⟨i, g, k1, _⟩ := h.at_
  obtain ⟨o, e, k⟩ := hD
  rw [z, k1] at e
  exact k _ _ _ (Option.some.inj e).symm
/-- what the law's loop keeps -/
structure LI (K : PySem.W.Frag) (C : Addr) (Ts : List (Addr × Str)) (p : Pn) (ln lk ls : Addr) (ks ss : List V) (k : Nat) (H : Hp) : Prop where
  pen : PenAt K p k H
  pl : ∃ xs, H p.l = some (.lst xs)
  tabs : LamX.Tabs Ts H
  nm : H ln = some (.lst (names.map V.str))
  ky : H lk = some (.lst ks)
  sm : H ls = some (.lst ss)
  row : Paired (Row K C H) ks ss
  n1 : ln ≠ p.p
  n2 : lk ≠ p.p
  n3 : ls ≠ p.p
  n4 : lk ≠ p.l
  n5 : ls ≠ p.l
  n6 : lk ≠ ln
  n7 : ls ≠ ln
  n8 : lk ≠ ls
section
variable {p : Pn} {ln lk ls : Addr} {ks ss : List V} {k k' : Nat} {H H' : Hp} {a : Addr} {s : Str} {n : Int}
theorem LI.lsts (h : LI K C Ts p ln lk ls ks ss k H) : Lsts [p.p] H := fun z hz => by
  rw [List.mem_singleton.mp hz]
  obtain ⟨_, _, k, _⟩ := h.pen.at_
  exact ⟨_, k⟩
theorem LI.sum (h : LI K C Ts p ln lk ls ks ss k H) (u : UpN [p.p] H H') (S : SumAt C H a s n) : SumAt C H' a s n := ⟨S.1, S.2.elim fun dx e => ⟨dx, u.ins h.lsts e⟩⟩
theorem LI.upN (h : LI K C Ts p ln lk ls ks ss k H) (u : UpN [p.p] H H') (t : LamX.Tabs Ts H') (hp : PenAt K p k' H') : LI K C Ts p ln lk ls ks ss k' H' := by
  obtain ⟨i, g, k1, k2, _⟩ := h.pen.at_
  refine ⟨hp, h.pl.elim fun xs e => ⟨xs, u.lst (by simpa using k2) e⟩, t, u.lst (by simpa using h.n1) h.nm, u.lst (by simpa using h.n2) h.ky, u.lst (by simpa using h.n3) h.sm, Paired.mono (fun x y r => ?_) h.row, h.n1, h.n2, h.n3, h.n4, h.n5, h.n6, h.n7, h.n8⟩
  · obtain ⟨c, a, s, n, rfl, rfl, r1, r2⟩ := r
    exact ⟨c, a, s, n, rfl, rfl, u.tup h.lsts r1, h.sum u r2⟩
theorem LI.ext (h : LI K C Ts p ln lk ls ks ss k H) (e : Ext H H') : LI K C Ts p ln lk ls ks ss k H' := h.upN (UpN.of e) (h.tabs.ext e) (h.pen.ext e)
theorem LI.up (h : LI K C Ts p ln lk ls ks ss k H) (u : Up [p.p] H H') (hp : PenAt K p k' H') : LI K C Ts p ln lk ls ks ss k' H' := h.upN u.toN (tabs_up h.tabs u h.lsts) hp
theorem LI.extN (h : LI K C Ts p ln lk ls ks ss k H) (e : LamX.ExtN H H') (t : LamX.Tabs Ts H') : LI K C Ts p ln lk ls ks ss k H' := h.upN (UpN.ofN e) t (PenAt.extN h.pen e)
theorem LI.less (h : LI K C Ts p ln lk ls ks ss k H) (e : k' ≤ k) : LI K C Ts p ln lk ls ks ss k' H := h.upN UpN.refl h.tabs (h.pen.less e)
end
theorem s_gQuad {i j l m : Nat} {p : Addr} {x y z w : V} {σ : L2.St} {H : Hp} {Q : L2.St → Hp → Prop} (h : SqT K H p [x, y, z, w]) (q : Q ((((σ.set i (some x)).set j (some y)).set l (some z)).set m (some w)) H) : gTup K 4 (gCons (gName i) (gCons (gName j) (gCons (gName l) (gCons (gName m) gNil)))) (.ref p) σ H Q :=
  ⟨p, _, rfl, h, rfl, x, _, rfl, y, _, rfl, z, _, rfl, w, [], rfl, rfl, q⟩
def t_body (K : PySem.W.Frag) (C B T : Addr) (Ts : List (Addr × Str)) : TS :=
  (tSeq (tPar3 6 7 8 (tCons (tCall (spDraw K) [] E0 (tCons (tVar 1) (tCons (tC (.int 7)) tNil))) (tCons (tCall (spNumber K) [] E0 (tCons (tVar 1) tNil)) (tCons (tCall (spNumber K) [] E0 (tCons (tVar 1) tNil)) tNil))))
    (tSeq (tAsg (tIfJ (tOr (tTest (tOp rNe (tVar 7) (tC (.int 0)))) (tTest (tOp rEq (tCall (spDraw K) [] E0 (tCons (tVar 1) (tCons (tC (.int 2)) tNil))) (tC (.int 0))))) (tMake C (spInit K B C) [] E0 (tCons (tOp (rIxL K) (tVar 2) (tVar 6)) (tCons (tVar 7) tNil))) (tMake C (spInit K B C) [.int 0] E0 (tCons (tOp (rIxL K) (tVar 2) (tVar 6)) tNil))) (gName 9))
    (tSeq (tDrop (tBM K "list" rAppend (tVar 3) (tCons (tTup (tCons (tVar 6) (tCons (tVar 7) tNil))) tNil)))
    (tSeq (tDrop (tBM K "list" rAppend (tVar 4) (tCons (tVar 9) tNil)))
    (tSeq (tIfS (tTest (tOp (rNeD K) (tLst (tCons (tCall (spShown C) [] E0 (tCons (tOp (rOwnBin K C (spAdd K B C fun i j => i + j) E0) (tVar 9) (tVar 8)) tNil)) (tCons (tCall (spShown C) [] E0 (tCons (tOp (rOwnBin K C (spAdd K B C fun i j => i - j) E0) (tVar 9) (tVar 8)) tNil)) tNil))) (tLst (tCons (tTup (tCons (tOp (rIxL K) (tVar 2) (tVar 6)) (tCons (tOp rAddI (tVar 7) (tVar 8)) tNil))) (tCons (tTup (tCons (tOp (rIxL K) (tVar 2) (tVar 6)) (tCons (tOp rSubI (tVar 7) (tVar 8)) tNil))) tNil)))))
    (tRet (tC (.bl false)))
    tNext)
    (tSeq (tAsg (tCall (spPick K) [] E0 (tCons (tVar 1) (tCons (tVar 3) tNil))) (gName 10))
    (tSeq (tAsg (tMeth C "apart" (spApart K B C) [] E0 (tVar 9) (tCons (tMkKw C 2 (spInit K B C) List.reverse E0 (tCons (tOp (rIxT K) (tVar 10) (tC (.int 1))) (tCons (tOp (rIxL K) (tVar 2) (tOp (rIxT K) (tVar 10) (tC (.int 0)))) tNil))) tNil)) (gName 11))
    (tSeqJ (tIfS (tOr (tTest (tOp rNe (tVar 11) (tIfJ (tTest (tOp rEq (tOp (rIxT K) (tVar 10) (tC (.int 0))) (tVar 6))) (tOp rSubI (tVar 7) (tOp (rIxT K) (tVar 10) (tC (.int 1)))) (tC .non)))) (tB (tCB (rIsi K) (tCons (tVar 11) (tCons (tC (.ty "bool")) tNil)))))
    (tRet (tC (.bl false)))
    tNext)
    (tSeq (tAsg (tCall spText [] E0 (tCons (tOp (rIxL K) (tVar 2) (tVar 6)) (tCons (tVar 7) tNil))) (gName 12))
    (tSeqJ (tIfS (tOr (tTest (tOp rNe (tCB (rStrOwn C (spStr C) E0) (tCons (tVar 9) tNil)) (tVar 12))) (tTest (tOp (rNeD K) (tCall (spShown C) [] E0 (tCons (tSt C (spRead K T C) E0 (tC (.ref C)) (tCons (tVar 12) tNil)) tNil)) (tTup (tCons (tOp (rIxL K) (tVar 2) (tVar 6)) (tCons (tVar 7) tNil))))))
    (tRet (tC (.bl false)))
    tNext)
    (tSeq (tAsg (tCall (spBent K) [] E0 (tCons (tVar 1) (tCons (tVar 12) tNil))) (gName 13))
    (tSeq (tAsg (tM1 rSplit (tVar 13) (tC (.str " "))) (gName 14))
    (tSeq (tAsg (tIfJ (tTest (tOp rIsN (tCall spTold [] E0 (tCons (tOp (rIxL K) (tVar 14) (tC (.int 0))) tNil)) (tC .non))) (tTup (tCons (tC (.int 0)) (tCons (tC (.int 0)) tNil))) (tTup (tCons (tC (.int 0)) (tCons (tC (.int 1)) tNil)))) (gName 15))
    (tSeq (tAsg (LamX.tLam Ts (TTheard B T) fun E' => (tStK C 1 (spRead K T C) E' (tC (.ref C)) (tCons (tVar 13) tNil))) (gName 16))
    (tSeqJ (tIfS (tAnd (tTest (tOp (rEqD K) (tVar 15) (tTup (tCons (tC (.int 0)) (tCons (tC (.int 1)) tNil))))) (tTest (tOp rEq (tCB (rLenQ K) (tCons (tVar 14) tNil)) (tC (.int 1)))))
    (tIfS (tOr (tNot (tB (tCB (rIsi K) (tCons (tVar 16) (tCons (tC (.ty "list")) tNil))))) (tOr (tTest (tOp (rNeD K) (tCall (spShown C) [] E0 (tCons (tOp (rIxL K) (tVar 16) (tC (.int 0))) tNil)) (tCall spTold [] E0 (tCons (tVar 13) tNil)))) (tTest (tOp rNe (tCB (rStrOwn C (spStr C) E0) (tCons (tOp (rIxL K) (tVar 16) (tC (.int 0))) tNil)) (tVar 13)))))
    (tRet (tC (.bl false)))
    tNext)
    (tIfS (tTest (tOp (rNeD K) (tVar 16) (tVar 15)))
    (tRet (tC (.bl false)))
    tNext))
    (tSeqJ (tIfS (tOr (tNot (tB (tCall (spValues K C Ts) [] E0 (tCons (tVar 1) (tCons (tVar 9) (tCons (tOp (rIxL K) (tVar 2) (tVar 6)) (tCons (tVar 7) tNil))))))) (tNot (tB (tCall (spRefused K C Ts) [] E0 (tCons (tVar 1) (tCons (tVar 9) tNil))))))
    (tRet (tC (.bl false)))
    tNext)
    (tIfS (tTest (tOp (rNeD K) (LamX.tLam Ts (TTheard B T) fun E' => (tSt C (spRead K T C) E' (tC (.ref C)) (tCons (tCall (spPick K) [] E0 (tCons (tVar 1) (tCons (tLst (tCons (tC .non) (tCons (tC (.int 0)) (tCons (tC (.bl true)) (tCons (tLst (tCons (tC (.str "p")) tNil)) (tCons (tTup (tCons (tC (.str "p")) tNil)) (tCons tDNewK (tCons (tVar 9) tNil)))))))) tNil))) tNil))) (tTup (tCons (tC (.int 0)) (tCons (tC (.int 0)) tNil)))))
    (tRet (tC (.bl false)))
    tNext)))))))))))))))))
def pairD (s : Str) (n : Int) : PyData := .tuple [.str s, .int n]
theorem dpPair {H : Hp} {t : Addr} {s : Str} {n : Int} (h : H t = some (.tup [.str s, .int n])) : Dp K H (.ref t) (pairD s n) := .tup (SqT.of h) (.cons (.str _) (.cons (.int _) .nil))
theorem sh_pair {s : Str} {n : Int} (h : sOk s) : SeqAt.shaped (pairD s n) = true := by
  simp [pairD, SeqAt.shaped, PyData.canLay0, PyData.canLayAll0, PyData.depth, PyData.depthAll, strOk_of h]
theorem sh_pairs {s : Str} {n m : Int} (h : sOk s) : SeqAt.shaped (.list [pairD s n, pairD s m]) = true := by
  simp [pairD, SeqAt.shaped, PyData.canLay0, PyData.canLayAll0, PyData.depth, PyData.depthAll, strOk_of h]
theorem mk_sum {s : Str} {n : Int} {H : Hp} {Q : VK} {E : XK} (hs : names.contains s = true) (g : given C s n H Q) : ∀ x dx, H x = none → H dx = none → dx ≠ x → spInit K B C [.ref x, .str s, .int n] (upd (upd H dx (.own x)) x (.ins C dx [])) (fun v H2 => v = .non ∧ Q (.ref x) H2) E := by
  intro x dx n1 n2 n3
  refine ⟨x, dx, .str s, .int n, .str, .int, rfl, upd_same, .str _, .int _, .inl ⟨s, n, rfl, hs, rfl, rfl, ?_⟩⟩
  rw [upd_upd]
  exact g x _ n1 (fun b o z => by rw [upd_ne (ne_of_none z n1), upd_ne (ne_of_none z n2)]; exact z) ⟨hs, dx, upd_same⟩
theorem mk_sum1 {s : Str} {n : Int} {H : Hp} {R : Hp → Prop} {E : XK} (hs : names.contains s = true) {x dx : Addr} (n1 : H x = none) (n2 : H dx = none) (n3 : dx ≠ x) (g : ∀ H', Ext H H' → SumAt C H' x s n → R H') : spInit K B C [.ref x, .str s, .int n] (upd (upd H dx (.own x)) x (.ins C dx [])) (fun v H2 => v = .non ∧ R H2) E := by
  refine ⟨x, dx, .str s, .int n, .str, .int, rfl, upd_same, .str _, .int _, .inl ⟨s, n, rfl, hs, rfl, rfl, ?_⟩⟩
  rw [upd_upd]
  exact g _ (fun b o z => by rw [upd_ne (ne_of_none z n1), upd_ne (ne_of_none z n2)]; exact z) ⟨hs, dx, upd_same⟩
theorem s_seqU {t1 t2 : TS} {D : Ends} {σ : L2.St} {H : Hp} (tail : t2 D σ H) (q : t2 D σ H → t1 { D with nx := t2 D } σ H) : tSeqJ t1 t2 D σ H := q tail
theorem LI.add {p : Pn} {ln lk ls : Addr} {ks ss : List V} {k : Nat} {H : Hp} {a kt : Addr} {s : Str} {n : Int} (h : LI K C Ts p ln lk ls ks ss k H) (hS : SumAt C H a s n) (hkt : H kt = none) :
    LI K C Ts p ln lk ls (ks ++ [.ref kt]) (ss ++ [.ref a]) k (upd (upd (upd H kt (.tup [.int (rankOf s), .int n])) lk (.lst (ks ++ [.ref kt]))) ls (.lst (ss ++ [.ref a]))) := by
  have x1 := ext_new (o := .tup [.int (rankOf s), .int n]) hkt
  have h1 := h.ext x1
  have u : UpN [lk, ls] (upd H kt (.tup [.int (rankOf s), .int n])) (upd (upd (upd H kt (.tup [.int (rankOf s), .int n])) lk (.lst (ks ++ [.ref kt]))) ls (.lst (ss ++ [.ref a]))) := (upN_at (p := lk) (by simp)).trans (upN_at (p := ls) (by simp))
  have l : Lsts [lk, ls] (upd H kt (.tup [.int (rankOf s), .int n])) := fun z hz => by
    simp only [List.mem_cons, List.not_mem_nil, or_false] at hz
    rcases hz with rfl | rfl
    · exact ⟨_, h1.ky⟩
    · exact ⟨_, h1.sm⟩
  have tb : LamX.Tabs Ts (upd (upd (upd H kt (.tup [.int (rankOf s), .int n])) lk (.lst (ks ++ [.ref kt]))) ls (.lst (ss ++ [.ref a]))) := tabs_up h1.tabs (M := [lk, ls]) ((up_at (p := lk) (by simp)).trans (up_at (p := ls) (by simp))) l
  refine ⟨(h1.pen.keep h.n2 h.n4).keep h.n3 h.n5, h1.pl.elim fun xs e => ⟨xs, by rw [upd_ne h.n5.symm, upd_ne h.n4.symm]; exact e⟩, tb, by rw [upd_ne h.n7.symm, upd_ne h.n6.symm]; exact h1.nm, by rw [upd_ne h.n8, upd_same], upd_same, ?_, h.n1, h.n2, h.n3, h.n4, h.n5, h.n6, h.n7, h.n8⟩
  refine Paired.snoc (Paired.mono (fun x y r => ?_) h1.row) ⟨kt, a, s, n, rfl, rfl, u.tup l upd_same, hS.1, hS.2.elim fun dx e => ⟨dx, u.ins l (x1 _ _ e)⟩⟩
  obtain ⟨c, a, s, n, rfl, rfl, r1, r2⟩ := r
  exact ⟨c, a, s, n, rfl, rfl, u.tup l r1, r2.1, r2.2.elim fun dx e => ⟨dx, u.ins l e⟩⟩
def t_rest (K : PySem.W.Frag) (C B T : Addr) (Ts : List (Addr × Str)) : TS :=
  (tSeqJ (tIfS (tOr (tNot (tB (tCall (spValues K C Ts) [] E0 (tCons (tVar 1) (tCons (tVar 9) (tCons (tOp (rIxL K) (tVar 2) (tVar 6)) (tCons (tVar 7) tNil))))))) (tNot (tB (tCall (spRefused K C Ts) [] E0 (tCons (tVar 1) (tCons (tVar 9) tNil))))))
    (tRet (tC (.bl false)))
    tNext)
    (tIfS (tTest (tOp (rNeD K) (LamX.tLam Ts (TTheard B T) fun E' => (tSt C (spRead K T C) E' (tC (.ref C)) (tCons (tCall (spPick K) [] E0 (tCons (tVar 1) (tCons (tLst (tCons (tC .non) (tCons (tC (.int 0)) (tCons (tC (.bl true)) (tCons (tLst (tCons (tC (.str "p")) tNil)) (tCons (tTup (tCons (tC (.str "p")) tNil)) (tCons tDNewK (tCons (tVar 9) tNil)))))))) tNil))) tNil))) (tTup (tCons (tC (.int 0)) (tCons (tC (.int 0)) tNil)))))
    (tRet (tC (.bl false)))
    tNext))
theorem raise_text {i j : Int} {H : Hp} {Q : VK} (k : ∀ t H3, H t = none → Ext H H3 → H3 t = some (.tup [.int i, .int j]) → Q (.ref t) H3) : badText T i j H (heardE B T Q) := fun d hd =>
  .inr ⟨rfl, d, .int i, .int j, rfl, upd_same, fun p H2 np e h => k p H2 ((Up.of (M := []) (ext_new hd)).free np) (fun b o z => e _ _ (ext_new hd _ _ z)) h⟩
theorem rd_rest (S : SumC K C) {p : Pn} {ln lk ls a : Addr} {ks ss : List V} {N : Nat} {H : Hp} {D : Ends} {s : Str} {n : Int} {x0 x5 y8 y10 y11 y12 y13 y14 y15 y16 x17 x18 x19 : Option V} (L : LI K C Ts p ln lk ls ks ss (N + 286) H) (Sa : SumAt C H a s n)
    (tail : ∀ H', SumAt C H' a s n → LI K C Ts p ln lk ls ks ss N H' → D.nx [x0, some (.ref p.p), some (.ref ln), some (.ref lk), some (.ref ls), x5, some (.int (rankOf s)), some (.int n), y8, some (.ref a), y10, y11, y12, y13, y14, y15, y16, x17, x18, x19] H') :
    t_rest K C B T Ts D [x0, some (.ref p.p), some (.ref ln), some (.ref lk), some (.ref ls), x5, some (.int (rankOf s)), some (.int n), y8, some (.ref a), y10, y11, y12, y13, y14, y15, y16, x17, x18, x19] H := by
  have lS : (1000 : Nat) ≤ sizeLine := by decide
  have hs := Sa.1
  have es := at_name hs
  unfold t_rest
  with_reducible refine s_seqJ ?_
  repeat trivial
  refine s_ixL (SqL.of L.nm) es ?_
  repeat trivial
  refine ⟨p, a, s, n, N + 186, rfl, Sa, L.pen, (by obtain ⟨xs, e⟩ := L.pl; rw [e]; exact fun z => nomatch z), L.tabs, fun H1 u1 T1 hp1 => ?_⟩
  have Sa := L.sum u1 Sa
  have L := L.upN u1 T1 hp1
  repeat trivial
  refine ite_f ?_
  repeat trivial
  refine ⟨p, a, s, n, N + 86, rfl, Sa, L.pen, (by obtain ⟨xs, e⟩ := L.pl; rw [e]; exact fun z => nomatch z), L.tabs, fun H2 u2 T2 hp2 => ?_⟩
  have Sa := L.sum u2 Sa
  have L := L.upN u2 T2 hp2
  repeat trivial
  refine ite_f ?_
  repeat trivial
  refine s_lam L.tabs fun H3 e3 T3 => ?_
  have Sa := L.sum (UpN.ofN e3) Sa
  have L := L.extN e3 T3
  unfold TTheard
  with_reducible dsimp only
  repeat trivial
  refine ⟨sl rfl, fun q1 h1 => ?_⟩
  have x1 := ext_new (o := .lst [.str "p"]) h1
  repeat trivial
  refine ⟨sl rfl, fun q2 h2 => ?_⟩
  have x2 := ext_new (o := .tup [.str "p"]) h2
  repeat trivial
  refine s_dnew fun q3 h3 => ?_
  have x3 := ext_new (o := .dK []) h3
  repeat trivial
  refine ⟨sl rfl, fun l hl => ?_⟩
  have y3 := et x1 (et x2 x3)
  have L := L.ext y3
  have Sa := Sa.ext y3
  repeat trivial
  refine s_pick (p := p) (n := N + 85) hl (by simp) (sl2 rfl) L.pen fun odd H7 hodd u7 hp7 => ?_
  have n1 : q1 ≠ p.p := (pen_ne L.pen ⟨_, x3 _ _ (x2 _ _ upd_same), fun _ _ _ z => by cases z⟩)
  have n2 : q2 ≠ p.p := (pen_ne L.pen ⟨_, x3 _ _ upd_same, fun _ _ _ z => by cases z⟩)
  have n3 : q3 ≠ p.p := (pen_ne L.pen ⟨_, upd_same, fun _ _ _ z => by cases z⟩)
  have ho : ∃ g, Is K H7 odd g ∧ g ≠ .str := by
    simp only [List.mem_cons, List.not_mem_nil, or_false] at hodd
    rcases hodd with rfl | rfl | rfl | rfl | rfl | rfl | rfl
    · exact ⟨_, .non, fun z => nomatch z⟩
    · exact ⟨_, .int _, fun z => nomatch z⟩
    · exact ⟨_, .bl _, fun z => nomatch z⟩
    · exact ⟨_, .lst (u7 _ _ (by simpa using n1) (x3 _ _ (x2 _ _ upd_same))), fun z => nomatch z⟩
    · exact ⟨_, .tup (u7 _ _ (by simpa using n2) (x3 _ _ upd_same)), fun z => nomatch z⟩
    · exact ⟨_, .dct (u7 _ _ (by simpa using n3) upd_same), fun z => nomatch z⟩
    · exact ⟨_, (L.sum u7.toN Sa).is S, fun z => nomatch z⟩
  have Sa := L.sum u7.toN Sa
  have L := L.up u7 hp7
  clear hodd u7 hp7 n1 n2 n3 y3 hl x3 x2 x1 h3 h2 h1
  obtain ⟨g, i8, w8⟩ := ho
  repeat trivial
  refine ⟨odd, g, rfl, i8, .inr ⟨w8, raise_text fun t H8 nt e8 h8 => ?_⟩⟩
  repeat trivial
  refine ⟨sl rfl, fun t2 ht2 => ?_⟩
  have x2 := ext_new (o := .tup [.int 0, .int 0]) ht2
  refine s_neDs (d := .tuple [.int 0, .int 0]) (.tup (SqT.of (x2 _ _ h8)) (.cons (.int _) (.cons (.int _) .nil))) (.tup (SqT.of upd_same) (.cons (.int _) (.cons (.int _) .nil))) (by decide +kernel) ?_
  repeat trivial
  refine ite_f ?_
  repeat trivial
  exact tail _ (Sa.ext (et e8 x2)) ((L.ext (et e8 x2)).less (by omega))
theorem rd_body (S : SumC K C) {p : Pn} {ln lk ls : Addr} {ks ss : List V} {N : Nat} {H : Hp} {D : Ends} {x0 x5 x6 x7 x8 x9 x10 x11 x12 x13 x14 x15 x16 x17 x18 x19 : Option V} (L : LI K C Ts p ln lk ls ks ss (N + 300) H) (lk5 : ks.length ≤ 5)
    (tail : ∀ (a kt : Addr) (s : Str) (n : Int) (H' : Hp) (y8 y10 y11 y12 y13 y14 y15 y16 : Option V), SumAt C H' a s n → LI K C Ts p ln lk ls (ks ++ [.ref kt]) (ss ++ [.ref a]) N H' → D.nx [x0, some (.ref p.p), some (.ref ln), some (.ref lk), some (.ref ls), x5, some (.int (rankOf s)), some (.int n), y8, some (.ref a), y10, y11, y12, y13, y14, y15, y16, x17, x18, x19] H') :
    t_body K C B T Ts D [x0, some (.ref p.p), some (.ref ln), some (.ref lk), some (.ref ls), x5, x6, x7, x8, x9, x10, x11, x12, x13, x14, x15, x16, x17, x18, x19] H := by
  have lS : (1000 : Nat) ≤ sizeLine := by decide
  unfold t_body
  repeat trivial
  refine ⟨p, 7, N + 299, rfl, by decide, by decide, L.pen, fun at_ H1 a0' a1' u1 hp1 => ?_⟩
  have L := L.up u1 hp1
  clear u1 hp1
  repeat trivial
  refine ⟨p, N + 296, rfl, L.pen, fun n H2 b0 b1 u2 hp2 => ?_⟩
  have L := L.up u2 hp2
  clear u2 hp2
  repeat trivial
  refine ⟨p, N + 293, rfl, L.pen, fun st H3 _ _ u3 hp3 => ?_⟩
  have L := L.up u3 hp3
  clear u3 hp3
  repeat trivial
  refine ⟨_, _, _, rfl, ?_⟩
  obtain ⟨s, hs, rfl, es⟩ := name_at a0' a1'
  clear a0' a1'
  with_reducible dsimp only
  with_reducible refine s_seq ?_
  with_reducible refine s_asg ?_
  refine s_ifW (fun v H' => ∃ a, v = .ref a ∧ SumAt C H' a s n ∧ LI K C Ts p ln lk ls ks ss (N + 292) H') (fun v H' hv => ?_) (fun tail' => ?_)
  rotate_left
  · have gv : ∀ {H' : Hp} {k : Nat} {Q : VK}, LI K C Ts p ln lk ls ks ss k H' → N + 292 ≤ k → (∀ v H', (∃ a, v = .ref a ∧ SumAt C H' a s n ∧ LI K C Ts p ln lk ls ks ss (N + 292) H') → Q v H') → given C s n H' Q := fun L hk t a H2 na e hS => t _ _ ⟨a, rfl, hS, (L.ext e).less hk⟩
    repeat trivial
    refine ite_n (fun e => ?_) (fun e => ?_)
    · refine ite_t (α := Unit) ?_
      repeat trivial
      refine s_ixL (SqL.of L.nm) es ?_
      repeat trivial
      exact mk_sum hs (gv L (by omega) tail')
    · have n0 : n = 0 := V.int.inj (of_decide_eq_true e)
      subst n0
      repeat trivial
      refine ⟨p, 2, N + 292, rfl, by decide, by decide, L.pen, fun d H4 _ _ u4 hp4 => ?_⟩
      have L := L.up u4 hp4
      repeat trivial
      refine ite_b (fun e => ?_) (fun e => ?_)
      · repeat trivial
        refine s_ixL (SqL.of L.nm) es ?_
        repeat trivial
        exact mk_sum hs (gv L (by omega) tail')
      · repeat trivial
        refine s_ixL (SqL.of L.nm) es ?_
        repeat trivial
        exact mk_sum hs (gv L (by omega) tail')
  obtain ⟨a, rfl, Sa, L'⟩ := hv
  clear L
  have L := L'
  clear L' es
  repeat trivial
  refine ⟨.inl ⟨rfl, _, SqL.of L.ky⟩, ?_⟩
  repeat trivial
  refine ⟨sl rfl, fun kt hkt => ?_⟩
  repeat trivial
  refine ⟨lk, ks, _, rfl, rfl, ext_new hkt _ _ L.ky, by omega, ?_⟩
  with_reducible dsimp only
  with_reducible refine s_seq ?_
  with_reducible refine s_drop ?_
  with_reducible refine s_bm ?_
  refine s_var (v := .ref ls) rfl ?_
  have es : (upd (upd H' kt (.tup [.int (rankOf s), .int n])) lk (.lst (ks ++ [.ref kt]))) ls = some (.lst ss) := by rw [upd_ne L.n8.symm]; exact ext_new hkt _ _ L.sm
  refine ⟨.inl ⟨rfl, _, SqL.of es⟩, ?_⟩
  repeat trivial
  refine ⟨ls, ss, _, rfl, rfl, es, by have := paired_len L.row; omega, ?_⟩
  have L2 := L.add Sa hkt
  have Sa : SumAt C (upd (upd (upd H' kt (.tup [.int (rankOf s), .int n])) lk (.lst (ks ++ [.ref kt]))) ls (.lst (ss ++ [.ref a]))) a s n := ⟨hs, Sa.2.elim fun dx e => ⟨dx, by
    rw [upd_ne (fun z => by rw [z, L.sm] at e; cases e), upd_ne (fun z => by rw [z, L.ky] at e; cases e)]; exact ext_new hkt _ _ e⟩⟩
  generalize upd (upd (upd H' kt (.tup [.int (rankOf s), .int n])) lk (.lst (ks ++ [.ref kt]))) ls (.lst (ss ++ [.ref a])) = H4 at L2 Sa ⊢
  clear L es hkt
  have L := L2
  clear L2
  with_reducible dsimp only
  repeat trivial
  obtain ⟨dx, ea⟩ := Sa.2
  refine ⟨a, dx, _, .int, rfl, ea, .int _, (fun _ z => nomatch z), a, s, n, .int st, .int, rfl, Sa, .int _, .inl ⟨st, rfl, fun a1 H5 na1 e1 S1 => ?_⟩⟩
  repeat trivial
  refine ⟨a1, s, n + st, rfl, S1, fun t1 ht1 => ?_⟩
  have x1 := ext_new (o := .tup [.str s, .int (n + st)]) ht1
  repeat trivial
  refine ⟨a, dx, _, .int, rfl, x1 _ _ (e1 _ _ ea), .int _, (fun _ z => nomatch z), a, s, n, .int st, .int, rfl, (Sa.ext e1).ext x1, .int _, .inl ⟨st, rfl, fun a2 H6 na2 e2 S2 => ?_⟩⟩
  repeat trivial
  refine ⟨a2, s, n - st, rfl, S2, fun t2 ht2 => ?_⟩
  have x2 := ext_new (o := .tup [.str s, .int (n - st)]) ht2
  repeat trivial
  refine ⟨sl rfl, fun l1 hl1 => ?_⟩
  have x3 := ext_new (o := .lst [.ref t1, .ref t2]) hl1
  have y3 := et e1 (et x1 (et e2 (et x2 x3)))
  have es := at_name hs
  repeat trivial
  refine s_ixL (SqL.of (y3 _ _ L.nm)) es ?_
  repeat trivial
  refine ⟨sl rfl, fun t3 ht3 => ?_⟩
  have x4 := ext_new (o := .tup [.str s, .int (n + st)]) ht3
  repeat trivial
  refine s_ixL (SqL.of (x4 _ _ (y3 _ _ L.nm))) es ?_
  repeat trivial
  refine ⟨sl rfl, fun t4 ht4 => ?_⟩
  have x5' := ext_new (o := .tup [.str s, .int (n - st)]) ht4
  repeat trivial
  refine ⟨sl rfl, fun l2 hl2 => ?_⟩
  have x6' := ext_new (o := .lst [.ref t3, .ref t4]) hl2
  refine s_neDs (.lst (SqL.of (x6' _ _ (x5' _ _ (x4 _ _ upd_same)))) (.cons (dpPair (x6' _ _ (x5' _ _ (x4 _ _ (x3 _ _ (x2 _ _ (e2 _ _ upd_same))))))) (.cons (dpPair (x6' _ _ (x5' _ _ (x4 _ _ (x3 _ _ upd_same))))) .nil))) (.lst (SqL.of upd_same) (.cons (dpPair (x6' _ _ (x5' _ _ upd_same))) (.cons (dpPair (x6' _ _ upd_same)) .nil))) (sh_pairs (name_ok hs).1) ?_
  repeat trivial
  refine ite_f ?_
  have y6 := et y3 (et x4 (et x5' x6'))
  have L := L.ext y6
  have Sa := Sa.ext y6
  clear y6 x6' x5' x4 y3 x3 x2 x1 e2 e1 S1 S2 ea hl2 ht4 ht3 hl1 ht2 na2 ht1 na1
  generalize (upd (upd (upd (upd (upd H6 t2 (.tup [.str s, .int (n - st)])) l1 (.lst [.ref t1, .ref t2])) t3 (.tup [.str s, .int (n + st)])) t4 (.tup [.str s, .int (n - st)])) l2 (.lst [.ref t3, .ref t4])) = H7 at L Sa ⊢
  repeat trivial
  refine ⟨p, lk, _, N + 291, rfl, by simp, by rw [List.length_append]; simp; omega, SqL.of (off_at (by simpa using L.n2) L.ky), L.pen, fun x H8 hx u8 hp8 => ?_⟩
  have Sa := L.sum u8.toN Sa
  have L := L.up u8 hp8
  obtain ⟨_, c, b, t, m, rfl, rfl, hc, Sb⟩ := paired_left L.row x hx
  have ht := Sb.1
  clear u8 hp8 hx
  repeat trivial
  obtain ⟨dx, ea⟩ := Sa.2
  refine ⟨a, dx, _, rfl, ea, by rfl, ?_⟩
  repeat trivial
  refine s_ixT (SqT.of hc) rfl ?_
  repeat trivial
  refine s_ixT (SqT.of hc) rfl ?_
  refine s_ixL (SqL.of L.nm) (at_name ht) ?_
  repeat trivial
  refine ⟨rfl, fun x dx n1 n2 n3 => ?_⟩
  rw [show ([V.int m, V.str t] : List V).reverse = [V.str t, V.int m] from rfl]
  refine mk_sum1 ht n1 n2 n3 fun H9 e9 Sb' => ?_
  repeat trivial
  have Sa := Sa.ext e9
  have L := L.ext e9
  have hc := e9 _ _ hc
  refine ⟨a, s, n, .ref x, .own C, rfl, Sa, Sb'.is S, .inl ⟨x, t, m, rfl, Sb', ?_⟩⟩
  with_reducible refine s_name ?_
  with_reducible dsimp only
  generalize hw : (if s = t then V.int (n - m) else .non) = w
  refine s_seqU ?_ (fun tl => ?_)
  rotate_left
  · repeat trivial
    with_reducible refine s_ifJ ?_
    repeat trivial
    refine s_ixT (SqT.of hc) rfl ?_
    repeat trivial
    by_cases e : s = t
    · subst e
      rw [if_pos rfl] at hw
      subst hw
      rw [decide_eq_true rfl]
      refine ite_t (α := Unit) ?_
      repeat trivial
      refine s_ixT (SqT.of hc) rfl ?_
      repeat trivial
      rw [decide_eq_true rfl]
      refine ite_f ?_
      repeat trivial
      refine s_isiB (.int _) (by decide) ?_
      repeat trivial
    · rw [if_neg e] at hw
      subst hw
      rw [decide_eq_false (show V.int (rankOf t) ≠ V.int (rankOf s) from fun z => e (rank_inj hs ht (V.int.inj z).symm))]
      refine ite_f ?_
      repeat trivial
      rw [decide_eq_true rfl]
      refine ite_f ?_
      repeat trivial
      refine s_isiB .non (by decide) ?_
      repeat trivial
  clear hw hc Sb Sb' e9 ea n1 n2 n3
  have hn : n.natAbs < 10 ^ 60 := by
    have : (2 * 10 ^ 40 : Int) < 10 ^ 60 := by decide
    omega
  have hW := textOf_W hs hn
  obtain ⟨ok, ln100⟩ := text_ok hs hn
  repeat trivial
  refine s_ixL (SqL.of L.nm) es ?_
  repeat trivial
  refine ⟨s, n, rfl, hs, hn, ?_⟩
  with_reducible refine s_name ?_
  with_reducible dsimp only
  with_reducible refine s_seqJ ?_
  repeat trivial
  have lS2 : (100000 : Nat) ≤ sizeLine := by decide
  obtain ⟨dx, ea⟩ := Sa.2
  refine ⟨a, dx, _, rfl, ea, a, s, n, rfl, Sa, hn, _, rfl, ?_⟩
  repeat trivial
  rw [decide_eq_true rfl]
  refine ite_f ?_
  repeat trivial
  have hd : head1 (textOf s n) = textOf s n := by unfold head1; rw [W_split hW]; rfl
  refine ⟨.str (textOf s n), .str, rfl, .str _, .inl ⟨_, rfl, by omega, fun z => absurd hW (by rw [← hd]; exact z s n), fun s' n' z z2 => absurd z2 (by rw [W_split hW]; exact Nat.lt_irrefl 1), fun s' n' z z2 b2 H10 nb e10 Sb => ?_⟩⟩
  rw [hd] at z
  obtain ⟨rfl, rfl⟩ := z.uniq hW
  repeat trivial
  refine ⟨b2, _, _, rfl, Sb, fun t1 ht1 => ?_⟩
  have x1 := ext_new (o := .tup [.str s', .int n']) ht1
  have x1 := et e10 x1
  repeat trivial
  refine s_ixL (SqL.of (x1 _ _ L.nm)) es ?_
  repeat trivial
  refine ⟨sl rfl, fun t2 ht2 => ?_⟩
  have x2 := ext_new (o := .tup [.str s', .int n']) ht2
  repeat trivial
  refine s_neDs (dpPair (x2 _ _ upd_same)) (dpPair upd_same) (sh_pair (name_ok hs).1) ?_
  repeat trivial
  refine ite_f ?_
  have Sa := Sa.ext (et x1 x2)
  have L := L.ext (et x1 x2)
  generalize upd (upd H10 t1 (.tup [.str s', .int n'])) t2 (.tup [.str s', .int n']) = H11 at L Sa ⊢
  clear x2 x1 ht2 ht1 Sb e10 nb z2 z ea
  repeat trivial
  refine ⟨p, _, N + 286, rfl, by omega, ok, L.pen, fun u H12 ul uo ub hpb => ?_⟩
  have Sa := L.sum ub.toN Sa
  have L := L.up ub hpb
  clear ub hpb
  repeat trivial
  refine ⟨⟨u, rfl⟩, ?_⟩
  repeat trivial
  refine s_split (by decide) (by omega) fun lw hlw => ?_
  obtain ⟨v, r, ev, vl, vr⟩ := split_cons u " "
  have vo := split_ok ev uo
  have hd : head1 u = v := by unfold head1; rw [ev]; rfl
  have x1 := ext_new (o := .lst ((Txt.split u " ").map V.str)) hlw
  have L := L.ext x1
  have Sa := Sa.ext x1
  have kw : upd H12 lw (.lst ((Txt.split u " ").map V.str)) lw = some (.lst ((Txt.split u " ").map V.str)) := upd_same
  generalize upd H12 lw (.lst ((Txt.split u " ").map V.str)) = H13 at L Sa kw ⊢
  clear x1 hlw
  rw [ev] at kw
  with_reducible refine s_name ?_
  with_reducible dsimp only
  with_reducible refine s_seq ?_
  with_reducible refine s_asg ?_
  with_reducible refine s_ifJ ?_
  repeat trivial
  refine s_ixL (v := .str v) (SqL.of kw) (atI_nat (j := 0) rfl) ?_
  repeat trivial
  by_cases hv : ∃ s2 n2, W v s2 n2
  · obtain ⟨s2, n2, hv⟩ := hv
    refine ⟨v, rfl, by omega, vo, fun z => absurd hv (z s2 n2), fun s3 n3 z q0 H14 nq0 e14 _ => ?_⟩
    repeat trivial
    refine ite_f ?_
    repeat trivial
    refine ⟨sl rfl, fun t5 ht5 => ?_⟩
    have x5' := ext_new (o := .tup [.int 0, .int 1]) ht5
    have L := L.ext (et e14 x5')
    have Sa := Sa.ext (et e14 x5')
    have kw := (et e14 x5') _ _ kw
    have k5 : upd H14 t5 (.tup [.int 0, .int 1]) t5 = some (.tup [.int 0, .int 1]) := upd_same
    generalize upd H14 t5 (.tup [.int 0, .int 1]) = H15 at L Sa k5 kw ⊢
    clear x5' e14 ht5 nq0 z
    with_reducible refine s_name ?_
    with_reducible dsimp only
    with_reducible refine s_seq ?_
    with_reducible refine s_asg ?_
    refine s_lam L.tabs fun H16 e16 T16 => ?_
    have Sa := L.sum (UpN.ofN e16) Sa
    have L := L.extN e16 T16
    have k5 := e16 _ _ k5 (fun _ z => nomatch z)
    have kw := e16 _ _ kw (fun _ z => nomatch z)
    unfold TTheard
    with_reducible dsimp only
    repeat trivial
    have wu : ∀ {s3 n3}, W (head1 u) s3 n3 → s3 = s2 ∧ n3 = n2 := fun z => (hd ▸ z).uniq hv
    by_cases hr : r = []
    · have uv := vr hr
      subst hr
      subst uv
      refine ⟨rfl, .str v, .str, rfl, .str _, .inl ⟨v, rfl, by omega, fun z => absurd hv (by rw [← hd]; exact z s2 n2), fun _ _ _ z2 => absurd z2 (by rw [ev]; exact Nat.lt_irrefl 1), fun s3 n3 z _ b2 H17 nb e17 Sb => ?_⟩⟩
      obtain ⟨rfl, rfl⟩ := wu z
      repeat trivial
      refine ⟨sl rfl, fun l6 hl6 => ?_⟩
      have x6' := ext_new (o := .lst [.ref b2]) hl6
      have L := L.ext (et e17 x6')
      have Sa := Sa.ext (et e17 x6')
      have kw := (et e17 x6') _ _ kw
      have k5 := (et e17 x6') _ _ k5
      have Sb := Sb.ext x6'
      have k6 : upd H17 l6 (.lst [.ref b2]) l6 = some (.lst [.ref b2]) := upd_same
      generalize upd H17 l6 (.lst [.ref b2]) = H18 at L Sa kw k5 k6 Sb ⊢
      clear x6' e17 hl6 nb z
      obtain ⟨h3, hn3, etx⟩ := W_text hv
      with_reducible refine s_name ?_
      with_reducible refine s_seqJ ?_
      repeat trivial
      refine ⟨sl rfl, fun t7 ht7 => ?_⟩
      have x7' := ext_new (o := .tup [.int 0, .int 1]) ht7
      refine s_eqDs (d := .tuple [.int 0, .int 1]) (.tup (SqT.of (x7' _ _ k5)) (.cons (.int _) (.cons (.int _) .nil))) (.tup (SqT.of upd_same) (.cons (.int _) (.cons (.int _) .nil))) (by decide +kernel) ?_
      repeat trivial
      refine ite_t (α := Unit) ?_
      repeat trivial
      refine s_lenL (SqL.of (x7' _ _ kw)) ?_
      repeat trivial
      rw [decide_eq_true (show V.int ((List.map V.str [v]).length : Nat) = V.int 1 from rfl)]
      refine ite_t (α := Unit) ?_
      repeat trivial
      refine s_isiB (.lst (x7' _ _ k6)) (by decide) ?_
      repeat trivial
      refine ite_f ?_
      repeat trivial
      refine s_ixL (v := .ref b2) (SqL.of (x7' _ _ k6)) (atI_nat (j := 0) rfl) ?_
      repeat trivial
      refine ⟨b2, s3, n3, rfl, Sb.ext x7', fun t8 ht8 => ?_⟩
      have x8' := et x7' (ext_new (o := .tup [.str s3, .int n3]) ht8)
      repeat trivial
      refine ⟨v, rfl, by omega, uo, fun z => absurd hv (z s3 n3), fun s4 n4 z t9 H19 nt9 e19 h9 => ?_⟩
      obtain ⟨rfl, rfl⟩ := z.uniq hv
      refine s_neDs (dpPair (e19 _ _ upd_same)) (dpPair h9) (sh_pair (name_ok h3).1) ?_
      repeat trivial
      refine ite_f ?_
      repeat trivial
      have x9' := et x8' e19
      refine s_ixL (v := .ref b2) (SqL.of (x9' _ _ k6)) (atI_nat (j := 0) rfl) ?_
      repeat trivial
      have Sb := Sb.ext x9'
      obtain ⟨dx, eb⟩ := Sb.2
      refine ⟨b2, dx, _, rfl, eb, b2, _, _, rfl, Sb, hn3, _, rfl, ?_⟩
      rw [← etx]
      repeat trivial
      rw [decide_eq_true rfl]
      refine ite_f ?_
      repeat trivial
      exact rd_rest S (L.ext x9') (Sa.ext x9') fun H' h1 h2 => tail _ _ _ _ _ _ _ _ _ _ _ _ _ h1 h2
    · have l2 : 1 < (Txt.split u " ").length := by
        rw [ev]
        cases r with
        | nil => exact absurd rfl hr
        | cons _ _ => simp
      refine ⟨rfl, .str u, .str, rfl, .str _, .inl ⟨u, rfl, by omega, fun z => absurd hv (by rw [← hd]; exact z s2 n2), fun _ _ _ _ H17 e17 => raise_text fun t6 H18 nt6 e18 h6 => ?_, fun _ _ _ z2 => absurd l2 z2⟩⟩
      have L := L.ext (et e17 e18)
      have Sa := Sa.ext (et e17 e18)
      have kw := (et e17 e18) _ _ kw
      have k5 := (et e17 e18) _ _ k5
      with_reducible refine s_name ?_
      with_reducible refine s_seqJ ?_
      repeat trivial
      refine ⟨sl rfl, fun t7 ht7 => ?_⟩
      have x7' := ext_new (o := .tup [.int 0, .int 1]) ht7
      refine s_eqDs (d := .tuple [.int 0, .int 1]) (.tup (SqT.of (x7' _ _ k5)) (.cons (.int _) (.cons (.int _) .nil))) (.tup (SqT.of upd_same) (.cons (.int _) (.cons (.int _) .nil))) (by decide +kernel) ?_
      repeat trivial
      refine ite_t (α := Unit) ?_
      repeat trivial
      refine s_lenL (SqL.of (x7' _ _ kw)) ?_
      repeat trivial
      rw [decide_eq_false (show V.int (((v :: r).map V.str).length : Nat) ≠ V.int 1 from fun z => by
        have z := V.int.inj z
        rw [ev] at l2
        rw [List.length_map] at z
        omega)]
      refine ite_f ?_
      repeat trivial
      refine s_neDs (d := .tuple [.int 0, .int 1]) (.tup (SqT.of (x7' _ _ h6)) (.cons (.int _) (.cons (.int _) .nil))) (.tup (SqT.of (x7' _ _ k5)) (.cons (.int _) (.cons (.int _) .nil))) (by decide +kernel) ?_
      repeat trivial
      refine ite_f ?_
      repeat trivial
      exact rd_rest S (L.ext x7') (Sa.ext x7') fun H' h1 h2 => tail _ _ _ _ _ _ _ _ _ _ _ _ _ h1 h2
  · refine ⟨v, rfl, by omega, vo, fun _ H14 e14 => ?_, fun s2 n2 z => absurd ⟨s2, n2, z⟩ hv⟩
    repeat trivial
    rw [decide_eq_true rfl]
    refine ite_t (α := Unit) ?_
    repeat trivial
    refine ⟨sl rfl, fun t5 ht5 => ?_⟩
    have x5' := ext_new (o := .tup [.int 0, .int 0]) ht5
    have L := L.ext (et e14 x5')
    have Sa := Sa.ext (et e14 x5')
    have k5 : upd H14 t5 (.tup [.int 0, .int 0]) t5 = some (.tup [.int 0, .int 0]) := upd_same
    generalize upd H14 t5 (.tup [.int 0, .int 0]) = H15 at L Sa k5 ⊢
    clear x5' e14 ht5
    with_reducible refine s_name ?_
    with_reducible dsimp only
    with_reducible refine s_seq ?_
    with_reducible refine s_asg ?_
    refine s_lam L.tabs fun H16 e16 T16 => ?_
    have Sa := L.sum (UpN.ofN e16) Sa
    have L := L.extN e16 T16
    have k5 := e16 _ _ k5 (fun _ z => nomatch z)
    unfold TTheard
    with_reducible dsimp only
    repeat trivial
    refine ⟨rfl, .str u, .str, rfl, .str _, .inl ⟨u, rfl, by omega, fun _ H17 e17 => raise_text fun t6 H18 nt6 e18 h6 => ?_, fun s3 n3 z => absurd ⟨s3, n3, hd ▸ z⟩ hv, fun s3 n3 z => absurd ⟨s3, n3, hd ▸ z⟩ hv⟩⟩
    have L := L.ext (et e17 e18)
    have Sa := Sa.ext (et e17 e18)
    have k5 := (et e17 e18) _ _ k5
    with_reducible refine s_name ?_
    with_reducible refine s_seqJ ?_
    repeat trivial
    refine ⟨sl rfl, fun t7 ht7 => ?_⟩
    have x7' := ext_new (o := .tup [.int 0, .int 1]) ht7
    refine s_eqD (d := .tuple [.int 0, .int 0]) (e := .tuple [.int 0, .int 1]) (.tup (SqT.of (x7' _ _ k5)) (.cons (.int _) (.cons (.int _) .nil))) (.tup (SqT.of upd_same) (.cons (.int _) (.cons (.int _) .nil))) (by decide +kernel) (by decide +kernel) ?_
    rw [show PyData.eqv (.tuple [.int 0, .int 0]) (.tuple [.int 0, .int 1]) = false from by decide +kernel]
    repeat trivial
    refine ite_f ?_
    refine ite_f ?_
    repeat trivial
    refine s_neDs (d := .tuple [.int 0, .int 0]) (.tup (SqT.of (x7' _ _ h6)) (.cons (.int _) (.cons (.int _) .nil))) (.tup (SqT.of (x7' _ _ k5)) (.cons (.int _) (.cons (.int _) .nil))) (by decide +kernel) ?_
    repeat trivial
    refine ite_f ?_
    repeat trivial
    exact rd_rest S (L.ext x7') (Sa.ext x7') fun H' h1 h2 => tail _ _ _ _ _ _ _ _ _ _ _ _ _ h1 h2
end
end K8
end
section
set_option linter.all false
set_option maxRecDepth 100000
set_option maxHeartbeats 1000000
open PySem PySem.Spec PyProof.Rows L2 Tk PySem.NumText
namespace K8
local macro_rules | `(tactic| trivial) => `(tactic| first
  | with_reducible refine s_seq ?_
  | with_reducible refine s_asg ?_
  | with_reducible refine s_op ?_
  | with_reducible refine s_c ?_
  | with_reducible refine s_name ?_
  | with_reducible refine s_cb ?_
  | with_reducible refine s_cons ?_
  | with_reducible refine s_nil ?_
  | with_reducible refine s_call ?_
  | with_reducible refine s_ret ?_
  | with_reducible refine s_ifS ?_
  | with_reducible refine s_test ?_
  | with_reducible refine s_B ?_
  | with_reducible refine s_kB ?_
  | with_reducible refine s_kI ?_
  | with_reducible refine s_addI ?_
  | with_reducible refine s_subI ?_
  | with_reducible refine s_ltI ?_
  | with_reducible refine s_leI ?_
  | with_reducible refine s_gtI ?_
  | with_reducible refine s_geI ?_
  | with_reducible refine s_int1 ?_
  | with_reducible refine s_intB ?_
  | with_reducible refine s_abs ?_
  | with_reducible refine s_eq rfl ?_
  | with_reducible refine s_ne rfl ?_
  | with_reducible refine s_isN ?_
  | with_reducible refine s_notN ?_
  | with_reducible refine s_un ?_
  | with_reducible refine s_unI ?_
  | with_reducible refine s_and ?_
  | with_reducible refine s_or ?_
  | with_reducible refine s_not ?_
  | with_reducible refine s_andV ?_
  | with_reducible refine s_orV ?_
  | with_reducible refine s_notV ?_
  | with_reducible refine s_if ?_
  | with_reducible refine s_tup ?_
  | with_reducible refine s_lst ?_
  | with_reducible refine s_fldT ?_
  | with_reducible refine s_drop ?_
  | with_reducible refine s_sl ?_
  | with_reducible refine s_none ?_
  | with_reducible refine s_some ?_
  | with_reducible refine s_sub ?_
  | with_reducible refine s_cval ?_
  | with_reducible refine s_bm ?_
  | with_reducible refine s_m1 ?_
  | with_reducible refine s_par ?_
  | with_reducible refine s_par3 ?_
  | with_reducible refine s_raise ?_
  | with_reducible refine s_sfld ?_
  | with_reducible refine s_make ?_
  | with_reducible refine s_dget ?_
  | with_reducible refine s_dget1 ?_
  | with_reducible refine s_js ?_
  | with_reducible refine s_jn ?_
  | with_reducible refine s_fmt ?_
  | with_reducible refine s_join _ ?_
  | with_reducible refine s_xfld ?_
  | with_reducible refine s_st ?_
  | with_reducible refine s_stK ?_
  | with_reducible refine s_mtK ?_
  | with_reducible refine s_mkKw ?_
  | with_reducible refine s_meth ?_
  | with_reducible refine s_next ?_
  | ((with_reducible refine s_var (v := ?_) ?_ ?_); rotate_left; focus rfl))
section
variable {K : PySem.W.Frag} {C B T : Addr} {Ts : List (Addr × Str)}
theorem split_no {w : Str} (h : 32 ∉ w.cps.toList) : Txt.split w " " = [w] := by
  obtain ⟨u, r, e, _, k⟩ := split_cons w " "
  cases r with
  | nil => rw [e, k rfl]
  | cons v r =>
    have j := PySem.StrLaws.join_split w " "
    rw [e] at j
    have k : u ++ " " ++ Str.join " " (v :: r) = w := j
    refine absurd ?_ h
    rw [← k, cps_app, cps_app]
    exact List.mem_append.mpr (.inl (List.mem_append.mpr (.inr (by decide +kernel))))
/-- too many figures -/
theorem not_W {s0 g z : Str} {k : Int} {d c : Nat} (hs : names.contains s0 = true) (hg : g.cps = #[c]) (hz : z.cps = #[d]) (hk : 61 ≤ k) (s : Str) (n : Int) : ¬ W (s0 ++ g ++ Txt.mul z k) s n := by
  intro h
  have hm := mul_signs (n := k) (by omega) hz
  have e0 : (s0 ++ g ++ Txt.mul z k).cps.toList = s0.cps.toList ++ (c :: List.replicate k.toNat d) := by
    rw [cps_app, cps_app, hm, hg]; simp
  have hsz := (name_size s0 (List.contains_iff_mem.mp hs) (c :: List.replicate k.toNat d)).1
  obtain ⟨r, e, kk⟩ := h.cut
  have h1 := h.1
  rw [e0, hsz] at h1
  have l1 : s.cps.toList.length ≤ s0.cps.toList.length := by
    rw [h1, List.length_take]; exact Nat.min_le_left _ _
  have l2 : r.length ≤ 61 := by
    rcases kk with ⟨rfl, _⟩ | ⟨c, ds, rfl, g, _⟩
    · exact Nat.zero_le _
    · rw [List.length_cons]; have := g.2.2.1; omega
  have l3 := congrArg List.length (e0.symm.trans e)
  rw [List.length_append, List.length_append, List.length_cons, List.length_replicate] at l3
  omega
def BadW (w : Str) : Prop := w.length ≤ 1000000 ∧ ∀ s n, ¬ W (head1 w) s n
theorem badW {s0 g z : Str} {k : Int} {d c : Nat} (hs : names.contains s0 = true) (hg : g.cps = #[c]) (hz : z.cps = #[d]) (hk : 61 ≤ k) (hk2 : k ≤ 100000) (hc : c ≠ 32) (hd : d ≠ 32) : BadW (s0 ++ g ++ Txt.mul z k) := by
  have hm := mul_signs (n := k) (by omega) hz
  have e0 : (s0 ++ g ++ Txt.mul z k).cps.toList = s0.cps.toList ++ (c :: List.replicate k.toNat d) := by
    rw [cps_app, cps_app, hm, hg]; simp
  have nb : 32 ∉ (s0 ++ g ++ Txt.mul z k).cps.toList := by
    rw [e0]
    intro h
    rcases List.mem_append.mp h with h | h
    · exact name_blank hs h
    · rcases List.mem_cons.mp h with h | h
      · exact hc h.symm
      · exact hd (List.eq_of_mem_replicate h).symm
  refine ⟨?_, fun s n => ?_⟩
  · have e1 : (s0 ++ g ++ Txt.mul z k).length = (s0 ++ g ++ Txt.mul z k).cps.toList.length := Array.length_toList.symm
    have e2 : s0.length = s0.cps.toList.length := Array.length_toList.symm
    have := (name_ok hs).2
    rw [e1, e0, List.length_append, List.length_cons, List.length_replicate, ← e2]
    omega
  · rw [show head1 (s0 ++ g ++ Txt.mul z k) = s0 ++ g ++ Txt.mul z k from by unfold head1; rw [split_no nb]; rfl]
    exact not_W hs hg hz hk s n
/-- the rows told apart -/
theorem rows {H : Hp} : ∀ {ks ss : List V}, Paired (Row K C H) ks ss → ∃ ps : List (Str × Int), Paired (fun x (q : Str × Int) => ∃ c, x = V.ref c ∧ H c = some (.tup [.int (rankOf q.1), .int q.2])) ks ps ∧ Paired (fun y (q : Str × Int) => ∃ a, y = V.ref a ∧ SumAt C H a q.1 q.2) ss ps
  | _, _, .nil => ⟨[], .nil, .nil⟩
  | _, _, .cons r t => by
    obtain ⟨ps, h1, h2⟩ := rows t
    obtain ⟨c, a, s, n, rfl, rfl, r1, r2⟩ := r
    exact ⟨(s, n) :: ps, .cons ⟨c, rfl, r1⟩ h1, .cons ⟨a, rfl, r2⟩ h2⟩
theorem sh_list : ∀ {ps : List (Str × Int)}, (∀ q ∈ ps, sOk q.1) → PyData.canLayAll0 (ps.map fun q => pairD q.1 q.2) = true ∧ PyData.depthAll (ps.map fun q => pairD q.1 q.2) ≤ 1
  | [], _ => ⟨rfl, Nat.zero_le _⟩
  | q :: r, h => by
    obtain ⟨h1, h2⟩ := sh_list fun y hy => h y (List.mem_cons_of_mem _ hy)
    have h3 := strOk_of (h q List.mem_cons_self)
    refine ⟨by simp [pairD, PyData.canLayAll0, PyData.canLay0, h3]; exact h1, ?_⟩
    simp [pairD, PyData.depthAll, PyData.depth]
    exact Nat.max_le.mpr ⟨Nat.le_refl _, h2⟩
theorem sh_pairsL {ps : List (Str × Int)} (h : ∀ q ∈ ps, sOk q.1) : SeqAt.shaped (.list (ps.map fun q => pairD q.1 q.2)) = true := by
  obtain ⟨h1, h2⟩ := sh_list h
  unfold SeqAt.shaped
  rw [show PyData.canLay0 (.list (ps.map fun q => pairD q.1 q.2)) = true from by simp [PyData.canLay0]; exact h1]
  rw [show PyData.depth (.list (ps.map fun q => pairD q.1 q.2)) = 1 + PyData.depthAll (ps.map fun q => pairD q.1 q.2) from by simp [PyData.depth]; omega]
  exact Bool.and_eq_true_iff.mpr ⟨rfl, decide_eq_true (by omega)⟩
theorem dp_pairs {H : Hp} : ∀ {os : List Addr} {ps : List (Str × Int)}, Paired (fun t (q : Str × Int) => H t = some (.tup [.str q.1, .int q.2])) os ps → DpAll K H (os.map V.ref) (ps.map fun q => pairD q.1 q.2)
  | _, _, .nil => .nil
  | _, _, .cons r t => .cons (dpPair r) (dp_pairs t)
theorem rd_end (S : SumC K C) {p : Pn} {ln lk ls : Addr} {ks ss : List V} {N : Nat} {H : Hp} {Q : VK} {x0 x5 x6 x7 x8 x9 x10 x11 x12 x13 x14 x15 x16 x17 x18 x19 : Option V} (L : LI K C Ts p ln lk ls ks ss N H) (l5 : ks.length ≤ 1000) (q : ∀ H', Q (.bl true) H') :
    (tAndV (tCall (spOrder K C) [] E0 (tCons (tVar 3) (tCons (tVar 4) tNil))) (tOp (rEqD K) (tLc (iList K (tVar 4)) (gName 9) tYes (tCall (spShown C) [] E0 (tCons (tVar 9) tNil)) [9]) (tLc (iList K (tVar 3)) (gTup K 2 (gCons (gName 6) (gCons (gName 19) gNil))) tYes (tTup (tCons (tOp (rIxL K) (tVar 2) (tVar 6)) (tCons (tVar 19) tNil))) [6, 19]))) [x0, some (.ref p.p), some (.ref ln), some (.ref lk), some (.ref ls), x5, x6, x7, x8, x9, x10, x11, x12, x13, x14, x15, x16, x17, x18, x19] H Q := by
  have lS : (100000 : Nat) ≤ sizeLine := by decide
  repeat trivial
  refine ⟨lk, ls, ks, ss, rfl, L.ky, L.sm, l5, L.row, fun H1 e1 => ?_⟩
  have L := L.ext e1
  repeat trivial
  refine ite_t (α := Unit) ?_
  obtain ⟨ps, r1, r2⟩ := rows L.row
  have nm : ∀ q ∈ ps, names.contains q.1 = true := fun q hq => by
    obtain ⟨y, a, _, h⟩ := Paired.right r2 q hq
    exact h.1
  have lp := paired_len r1
  have lq := paired_len r2
  with_reducible refine s_op ?_
  with_reducible refine s_lcL ?_
  refine s_var (v := .ref ls) rfl ?_
  refine lcL (xs := ss) (SqL.of L.sm) fun D hD => ?_
  refine ⟨fun i H' => Ext H1 H' ∧ ∃ os : List Addr, H' D = some (.lst (os.map V.ref)) ∧ Paired (fun t (q : Str × Int) => H' t = some (.tup [.str q.1, .int q.2])) os (ps.take i), ?_, ?_, ?_, ?_⟩
  · exact ⟨ext_new hD, [], upd_same, .nil⟩
  · exact fun i H' _ z => SqL.of (z.1 _ _ L.sm)
  · rintro i x H' hx ⟨e, os, h1, h2⟩
    have hi := (List.getElem?_eq_some_iff.mp hx).1
    have hq : ps[i]? = some ps[i] := List.getElem?_eq_getElem (by omega)
    generalize ps[i] = q at hq
    obtain ⟨a, rfl, Sa⟩ := paired_at r2 hx hq
    have Sa := Sa.ext e
    with_reducible refine s_name ?_
    refine ⟨wipe1, ?_⟩
    refine s_yes ?_
    refine ite_t (α := Unit) ?_
    repeat trivial
    refine ⟨a, q.1, q.2, rfl, Sa, fun t ht => ?_⟩
    have tD : D ≠ t := ne_of_none h1 ht
    have lo : os.length ≤ 1000 := by rw [Paired.length h2, List.length_take]; omega
    refine ⟨os.map V.ref, by rw [upd_ne tD]; exact h1, by rw [List.length_map]; omega, fun b o eb => ?_, os ++ [t], ?_, ?_⟩
    · rw [upd_ne (ne_of_none eb hD), upd_ne (ne_of_none (e _ _ eb) ht)]; exact e _ _ eb
    · rw [upd_same, List.map_append]; rfl
    · rw [List.take_add_one, hq]
      refine Paired.snoc (Paired.mono (fun b c hb => ?_) h2) ?_
      · rw [upd_ne (fun z => by rw [z, h1] at hb; cases hb), upd_ne (ne_of_none hb ht)]; exact hb
      · rw [upd_ne tD.symm, upd_same]
  · rintro H2 ⟨e2, os, h1, h2⟩
    rw [List.take_of_length_le (by omega)] at h2
    have L := L.ext e2
    with_reducible refine s_lcL ?_
    refine s_var (v := .ref lk) rfl ?_
    refine lcL (xs := ks) (SqL.of L.ky) fun D2 hD2 => ?_
    refine ⟨fun i H' => Ext H2 H' ∧ ∃ os : List Addr, H' D2 = some (.lst (os.map V.ref)) ∧ Paired (fun t (q : Str × Int) => H' t = some (.tup [.str q.1, .int q.2])) os (ps.take i), ?_, ?_, ?_, ?_⟩
    · exact ⟨ext_new hD2, [], upd_same, .nil⟩
    · exact fun i H' _ z => SqL.of (z.1 _ _ L.ky)
    · rintro i x H' hx ⟨e, os, k1, k2⟩
      have hi := (List.getElem?_eq_some_iff.mp hx).1
      have hq : ps[i]? = some ps[i] := List.getElem?_eq_getElem (by omega)
      have hn := nm _ (List.mem_of_getElem? hq)
      generalize ps[i] = q at hq hn
      obtain ⟨c, rfl, hc⟩ := paired_at r1 hx hq
      have hc := e _ _ (e2 _ _ hc)
      refine s_gPair (SqT.of hc) ?_
      refine ⟨rfl, ?_⟩
      refine s_yes ?_
      refine ite_t (α := Unit) ?_
      repeat trivial
      refine s_ixL (SqL.of (e _ _ L.nm)) (at_name hn) ?_
      repeat trivial
      refine ⟨sl rfl, fun t ht => ?_⟩
      have tD : D2 ≠ t := ne_of_none k1 ht
      have lo : os.length ≤ 1000 := by rw [Paired.length k2, List.length_take]; omega
      refine ⟨os.map V.ref, by rw [upd_ne tD]; exact k1, by rw [List.length_map]; omega, fun b o eb => ?_, os ++ [t], ?_, ?_⟩
      · rw [upd_ne (ne_of_none eb hD2), upd_ne (ne_of_none (e _ _ eb) ht)]; exact e _ _ eb
      · rw [upd_same, List.map_append]; rfl
      · rw [List.take_add_one, hq]
        refine Paired.snoc (Paired.mono (fun b c hb => ?_) k2) ?_
        · rw [upd_ne (fun z => by rw [z, k1] at hb; cases hb), upd_ne (ne_of_none hb ht)]; exact hb
        · rw [upd_ne tD.symm, upd_same]
    · rintro H3 ⟨e3, os2, k1, k2⟩
      rw [List.take_of_length_le (by omega)] at k2
      refine s_eqDs (.lst (SqL.of (e3 _ _ h1)) (dp_pairs (Paired.mono (fun _ _ r => e3 _ _ r) h2))) (.lst (SqL.of k1) (dp_pairs k2)) (sh_pairsL fun q hq => (name_ok (nm q hq)).1) ?_
      exact q _
def spLaw (K : PySem.W.Frag) (Ts : List (Addr × Str)) : Sp := fun vs H Q _ => ∃ (a : Addr) (xs : List Int), vs = [.ref a] ∧ SqL K H a (xs.map V.int) ∧ LamX.Tabs Ts H ∧ ∀ H', Q (.bl true) H'
theorem rd_law (S : SumC K C) {vs : List V} {H : Hp} {Q : VK} {E : XK} (h : spLaw K Ts vs H Q E) : t_law K C B T Ts { nx := fun _ H' => Q .non H', rt := Q } (start n_law vs) H := by
  obtain ⟨a0, xs, rfl, hx, hT, q⟩ := h
  unfold t_law
  repeat trivial
  refine ⟨a0, xs, rfl, hx, fun p H1 np e1 hp1 nl pl => ?_⟩
  repeat trivial
  refine ⟨sl rfl, fun ln h1 => ?_⟩
  repeat trivial
  refine ⟨sl rfl, fun lk h2 => ?_⟩
  repeat trivial
  refine ⟨sl rfl, fun ls h3 => ?_⟩
  repeat trivial
  refine ⟨sl rfl, fun tp h4 => ?_⟩
  refine s_gQuad (SqT.of upd_same) ?_
  have x1 := ext_new (o := .lst (names.map V.str)) h1
  have x2 := ext_new (o := .lst []) h2
  have x3 := ext_new (o := .lst []) h3
  have x4 := ext_new (o := .tup [V.ref p.p, V.ref ln, V.ref lk, V.ref ls]) h4
  obtain ⟨xl, pl⟩ := pl
  have L0 : LI K C Ts p ln lk ls [] [] 1048576 (upd (upd (upd (upd H1 ln (.lst (names.map V.str))) lk (.lst [])) ls (.lst [])) tp (.tup [V.ref p.p, V.ref ln, V.ref lk, V.ref ls])) := by
    have m12 := ne_of_none (x1 _ _ pl) h2
    refine ⟨(((hp1.ext x1).ext x2).ext x3).ext x4, ⟨xl, x4 _ _ (x3 _ _ (x2 _ _ (x1 _ _ pl)))⟩, (hT.ext fun b o z => x4 _ _ (x3 _ _ (x2 _ _ (x1 _ _ (e1 _ _ z))))), x4 _ _ (x3 _ _ (x2 _ _ upd_same)), x4 _ _ (x3 _ _ upd_same), x4 _ _ upd_same, .nil,
      hp1.ne h1, (hp1.ext x1).ne h2, ((hp1.ext x1).ext x2).ne h3, m12.symm, (ne_of_none (x2 _ _ (x1 _ _ pl)) h3).symm, (ne_of_none upd_same h2).symm, (ne_of_none (x2 _ _ upd_same) h3).symm, ne_of_none upd_same h3⟩
  generalize hG : (upd (upd (upd (upd H1 ln (.lst (names.map V.str))) lk (.lst [])) ls (.lst [])) tp (.tup [V.ref p.p, V.ref ln, V.ref lk, V.ref ls])) = H2 at L0
  rw [show (upd (upd (upd (upd H1 ln (.lst [V.str "p", .str "z0", .str "z1", .str "z2", .str "z3", .str "o", .str "s"])) lk (.lst [])) ls (.lst [])) tp (.tup [V.ref p.p, V.ref ln, V.ref lk, V.ref ls])) = H2 from hG]
  clear x4 x3 x2 x1 h4 h3 h2 h1 hp1 nl e1 np hG hx hT pl
  with_reducible dsimp only
  with_reducible refine s_seqJ ?_
  repeat trivial
  obtain ⟨mc, t, u, n1, n2, n3, o, o1, o2, o3⟩ := S.nm
  refine ⟨C, mc, .ref t, u, rfl, n1, n2, ?_⟩
  repeat trivial
  refine s_listOfT (n3.ext fun _ _ z => nomatch z) fun l hl => ?_
  have x1 := ext_new (o := .lst (names.map V.str)) hl
  repeat trivial
  refine s_neDs (.lst (SqL.of upd_same) dpStrs) (.lst (SqL.of (x1 _ _ L0.nm)) dpStrs) (shaped_strs _ (by decide +kernel)) ?_
  repeat trivial
  refine ite_f ?_
  repeat trivial
  refine ⟨C, mc, .ref t, u, rfl, n1, n2, ?_⟩
  repeat trivial
  refine ⟨_, _, _, _, true, rfl, .ty "tuple", .kTuple o1 o2, kit_ty (by decide +kernel), ?_⟩
  repeat trivial
  refine ite_f ?_
  have L1 := L0.ext x1
  generalize upd H2 l (.lst (names.map V.str)) = H3 at L1 ⊢
  clear L0 x1 hl n1 n2 n3 o1 o2 o3
  repeat trivial
  with_reducible refine s_seqJ ?_
  refine s_forR ?_
  repeat trivial
  refine forR (fun i σ H' => ∃ ks ss, ks.length = i ∧ LI K C Ts p ln lk ls ks ss (1048576 - 300 * i) H' ∧ ∃ x0 x5 x6 x7 x8 x9 x10 x11 x12 x13 x14 x15 x16 x17 x18 x19 : Option V, σ = [x0, some (.ref p.p), some (.ref ln), some (.ref lk), some (.ref ls), x5, x6, x7, x8, x9, x10, x11, x12, x13, x14, x15, x16, x17, x18, x19] ∧ (i ≠ 0 → ∃ a s n, x6 = some (.int (rankOf s)) ∧ x7 = some (.int n) ∧ x9 = some (.ref a) ∧ SumAt C H' a s n)) (by decide) (by decide) ⟨[], [], rfl, L1, _, _, _, _, _, _, _, _, _, _, _, _, _, _, _, _, rfl, fun z => absurd rfl z⟩ ?_ ?_
  · rintro i σ H4 hi ⟨ks, ss, hk, L, x0, x5, x6, x7, x8, x9, x10, x11, x12, x13, x14, x15, x16, x17, x18, x19, rfl, _⟩
    have hi : i < 5 := hi
    have eN : 1048576 - 300 * i = (1048576 - 300 * (i + 1)) + 300 := by omega
    rw [eN] at L
    with_reducible refine s_name ?_
    exact rd_body S L (by omega) fun a kt s n H5 y8 y10 y11 y12 y13 y14 y15 y16 h1 h2 => ⟨_, _, by rw [List.length_append, hk]; rfl, h2, _, _, _, _, _, _, _, _, _, _, _, _, _, _, _, _, rfl, fun _ => ⟨a, s, n, rfl, rfl, rfl, h1⟩⟩
  · rintro σ H4 ⟨ks, ss, hk, L, x0, x5, x6, x7, x8, x9, x10, x11, x12, x13, x14, x15, x16, x17, x18, x19, rfl, hl⟩
    obtain ⟨a, s, n, rfl, rfl, rfl, Sa⟩ := hl (by decide)
    have hs := Sa.1
    have es := at_name hs
    have hk : ks.length = 5 := hk
    have L : LI K C Ts p ln lk ls ks ss (1047000 + 5) H4 := L.less (by decide)
    with_reducible dsimp only
    with_reducible refine s_seqJ ?_
    repeat trivial
    refine s_ixL (SqL.of L.nm) es ?_
    obtain ⟨dx, ea⟩ := Sa.2
    refine ⟨a, dx, _, .str, rfl, ea, .str _, .inl rfl, ⟨a, s, n, _, .str, rfl, Sa, .str _, fun _ z => nomatch z⟩, fun H5 e5 => ?_⟩
    have L := L.ext e5
    have Sa := Sa.ext e5
    repeat trivial
    refine ite_f ?_
    repeat trivial
    refine s_ixL (SqL.of L.nm) es ?_
    repeat trivial
    refine ⟨sl rfl, fun t1 ht1 => ?_⟩
    have x1 := ext_new (o := .tup [.str s, .int n]) ht1
    have L := L.ext x1
    have Sa := Sa.ext x1
    obtain ⟨dx, ea⟩ := Sa.2
    refine ⟨a, dx, _, .tup, rfl, ea, .tup upd_same, .inr (.inl rfl), ⟨a, s, n, _, .tup, rfl, Sa, .tup upd_same, fun _ z => nomatch z⟩, fun H6 e6 => ?_⟩
    have L := L.ext e6
    have Sa := Sa.ext e6
    repeat trivial
    refine ite_f ?_
    repeat trivial
    obtain ⟨dx, ea⟩ := Sa.2
    refine ⟨a, dx, _, .non, rfl, ea, .non, .inr (.inr rfl), ⟨a, s, n, _, .non, rfl, Sa, .non, fun _ z => nomatch z⟩, fun H7 e7 => ?_⟩
    have L := L.ext e7
    repeat trivial
    refine ite_f ?_
    clear e7 e6 e5 ea x1 ht1 Sa hl
    repeat trivial
    refine ⟨p, ln, _, 1047000 + 4, rfl, by decide, by decide, SqL.of (off_at (by simpa using L.n1) L.nm), L.pen, fun x H8 hx u8 hp8 => ?_⟩
    have L := L.up u8 hp8
    obtain ⟨s0, hs0, rfl⟩ : ∃ s0, names.contains s0 = true ∧ x = .str s0 := by
      obtain ⟨s0, h, rfl⟩ := List.mem_map.mp hx
      exact ⟨s0, List.contains_iff_mem.mpr h, rfl⟩
    clear hx u8 hp8
    repeat trivial
    refine ⟨sl rfl, fun l hl => ?_⟩
    repeat trivial
    refine s_pick (p := p) (n := 1047000 + 3) hl (by simp) (sl2 rfl) L.pen fun g H9 hg u9 hp9 => ?_
    have L := L.up u9 hp9
    obtain ⟨g, c, rfl, hg, hc⟩ : ∃ (g0 : Str) (c : Nat), g = .str g0 ∧ g0.cps = #[c] ∧ c ≠ 32 := by
      simp only [List.mem_cons, List.not_mem_nil, or_false] at hg
      rcases hg with rfl | rfl
      · exact ⟨_, 43, rfl, rfl, by decide⟩
      · exact ⟨_, 45, rfl, rfl, by decide⟩
    clear u9 hp9
    have n0 := (name_ok hs0).2
    have g1 : g.length = 1 := by unfold Str.length; rw [hg]; rfl
    have lS : (100000 : Nat) ≤ sizeLine := by decide
    repeat trivial
    refine s_addS (by omega) ?_
    repeat trivial
    refine ⟨p, 5000, 1047000 + 2, rfl, by decide, by decide, L.pen, fun d H10 d0 d1 u10 hp10 => ?_⟩
    have L := L.up u10 hp10
    repeat trivial
    refine ⟨"9", 61 + d, rfl, rfl, by omega, by omega, by decide, ?_⟩
    have lm := mul_len (z := "9") (n := 61 + d) (by omega) rfl
    refine s_addS (by rw [Str.length_append]; omega) ?_
    have b1 : BadW (s0 ++ g ++ Txt.mul "9" (61 + d)) := badW (d := 57) hs0 hg rfl (by omega) (by omega) hc (by decide)
    generalize s0 ++ g ++ Txt.mul "9" (61 + d) = w1 at b1 ⊢
    clear lm u10 hp10 d0 d1
    with_reducible refine s_name ?_
    with_reducible dsimp only
    with_reducible refine s_seqJ ?_
    refine s_forL ?_
    repeat trivial
    refine ⟨"9", 5000, rfl, rfl, by decide, by decide, by decide, ?_⟩
    have lm := mul_len (z := "9") (n := 5000) (by decide) rfl
    have lp : ("p+" : Str).length = 2 := by decide +kernel
    refine s_addS (by rw [lp]; omega) ?_
    have b2 : BadW ("p+" ++ Txt.mul "9" 5000) := by
      rw [show ("p+" : Str) = "p" ++ "+" from by decide +kernel]
      exact badW (s0 := "p") (g := "+") (d := 57) (c := 43) (by decide) rfl rfl (by decide) (by decide) (by decide) (by decide)
    generalize ("p+" : Str) ++ Txt.mul "9" 5000 = w2 at b2 ⊢
    clear lm
    repeat trivial
    refine ⟨"1", 4301, rfl, rfl, by decide, by decide, by decide, ?_⟩
    have lm := mul_len (z := "1") (n := 4301) (by decide) rfl
    have lp : ("z0-" : Str).length = 3 := by decide +kernel
    refine s_addS (by rw [lp]; omega) ?_
    have b3 : BadW ("z0-" ++ Txt.mul "1" 4301) := by
      rw [show ("z0-" : Str) = "z0" ++ "-" from by decide +kernel]
      exact badW (s0 := "z0") (g := "-") (d := 49) (c := 45) (by decide) rfl rfl (by decide) (by decide) (by decide) (by decide)
    generalize ("z0-" : Str) ++ Txt.mul "1" 4301 = w3 at b3 ⊢
    clear lm
    repeat trivial
    refine ⟨sl rfl, fun fl hfl => ?_⟩
    have x1 := ext_new (o := .lst [.str w1, .str w2, .str w3]) hfl
    have L0 := L
    have nfl : fl ≠ p.p := L.pen.ne hfl
    refine forL (xs := [.str w1, .str w2, .str w3]) (fun i σ H' => H' fl = some (.lst [.str w1, .str w2, .str w3]) ∧ LI K C Ts p ln lk ls ks ss (1047000 + 2) H' ∧ ∃ x0 x5 x6 x7 x8 x9 x10 x11 x12 x13 x14 x15 x16 x17 x18 x19 : Option V, σ = [x0, some (.ref p.p), some (.ref ln), some (.ref lk), some (.ref ls), x5, x6, x7, x8, x9, x10, x11, x12, x13, x14, x15, x16, x17, x18, x19]) (SqL.of upd_same) ⟨upd_same, L.ext x1, _, _, _, _, _, _, _, _, _, _, _, _, _, _, _, _, rfl⟩ (fun i σ H' _ h => SqL.of h.1) ?_ ?_
    · rintro i x σ H' hx ⟨hf, L, x0, x5, x6, x7, x8, x9, x10, x11, x12, x13, x14, x15, x16, x17, x18, x19, rfl⟩
      obtain ⟨w, rfl, bw⟩ : ∃ w, x = .str w ∧ BadW w := by
        have := List.mem_of_getElem? hx
        simp only [List.mem_cons, List.not_mem_nil, or_false] at this
        rcases this with rfl | rfl | rfl
        · exact ⟨_, rfl, b1⟩
        · exact ⟨_, rfl, b2⟩
        · exact ⟨_, rfl, b3⟩
      with_reducible refine s_name ?_
      repeat trivial
      refine s_lam L.tabs fun H11 e11 T11 => ?_
      have L := L.extN e11 T11
      have hf := e11 _ _ hf (fun _ z => nomatch z)
      unfold TTheard
      with_reducible dsimp only
      repeat trivial
      refine ⟨.str w, .str, rfl, .str _, .inl ⟨w, rfl, bw.1, fun _ H12 e12 => raise_text fun t6 H13 nt6 e13 h6 => ?_, fun s3 n3 z => absurd z (bw.2 s3 n3), fun s3 n3 z => absurd z (bw.2 s3 n3)⟩⟩
      have L := L.ext (et e12 e13)
      have hf := (et e12 e13) _ _ hf
      repeat trivial
      refine ⟨sl rfl, fun t7 ht7 => ?_⟩
      have x7' := ext_new (o := .tup [.int 0, .int 0]) ht7
      refine s_neDs (d := .tuple [.int 0, .int 0]) (.tup (SqT.of (x7' _ _ h6)) (.cons (.int _) (.cons (.int _) .nil))) (.tup (SqT.of upd_same) (.cons (.int _) (.cons (.int _) .nil))) (by decide +kernel) ?_
      repeat trivial
      refine ite_f ?_
      repeat trivial
      exact ⟨x7' _ _ hf, L.ext x7', _, _, _, _, _, _, _, _, _, _, _, _, _, _, _, _, rfl⟩
    · rintro σ H' ⟨hf, L, x0, x5, x6, x7, x8, x9, x10, x11, x12, x13, x14, x15, x16, x17, x18, x19, rfl⟩
      with_reducible dsimp only
      with_reducible refine s_ret ?_
      exact rd_end S L (by omega) q
end
end K8
end
section
set_option linter.all false
set_option maxRecDepth 100000
set_option maxHeartbeats 4000000
open PySem PySem.Spec PyProof.Rows L2 Tk PySem.NumText
namespace K8
theorem ok__law_values_right {P : Program} {w : World} {K : PySem.W.Frag} {mg : Str → Option Value} {base : Heap} {f : Addr} {fd : FuncData} {C B T : Addr} {Ts : List (Addr × Str)} (S : SumC K C) (b_dict : mg "dict" = none) (c__law_number : Cl P w K mg base 3 "_law_number" (spNumber K) []) (b_list : mg "list" = none) (c_Sum_value_in : Mth P w K mg base 3 C "value_in" (spValue K B C) []) (c_Sum_value_in_K : MtK P w K mg base 3 C "value_in" (spValue K B C) ["numbers"]) (c__law_pick : Cl P w K mg base 3 "_law_pick" (spPick K) []) (h_heard : HeardF P w K mg B T)
    (hlam : LamF base mg fd.code ((envOfC "_law_values_right" (defScope s__law_values_right) 0 0 fd.code).qual ++ "<lambda>") Ts) (F : FunD K "_law_values_right" "_law_values_right" (defArgs s__law_values_right) (defBody s__law_values_right) (defScope s__law_values_right) [] [] f fd) : FnOk P w K mg base (L2.CX P w) 8 f fd ["_law_pen_here", "_law_one", "_law_source", "_law_number_here"] (spValues K C Ts) :=
  okC F sc__law_values_right (fun vs H Q E h => by obtain ⟨_, _, _, _, _, rfl, _⟩ := h; rfl) fun cdv A outer s H vs Q E hc hr h => ⟨t__law_values_right K C B T Ts, (tm__law_values_right b_dict c__law_number b_list c_Sum_value_in c_Sum_value_in_K c__law_pick h_heard (hc ▸ hlam) hr).nox, rd_values S h⟩

theorem ok__law_refused_right {P : Program} {w : World} {K : PySem.W.Frag} {mg : Str → Option Value} {base : Heap} {f : Addr} {fd : FuncData} {C B T : Addr} {Ts : List (Addr × Str)} (S : SumC K C) (c__law_pick : Cl P w K mg base 3 "_law_pick" (spPick K) []) (h_heard : HeardF P w K mg B T) (m_Sum1 : Mkr P w K mg base 3 "Sum" C (spInit K B C) [.int 0]) (m_Sum2 : Mkr P w K mg base 3 "Sum" C (spInit K B C) []) (o_Sum_Add : OM P w K mg base 5 C "__add__" (spAdd K B C fun i j => i + j)) (b_Sum_Add : OwnBin K C "add") (o_Sum_Sub : OM P w K mg base 5 C "__sub__" (spAdd K B C fun i j => i - j)) (b_Sum_Sub : OwnBin K C "sub") (c_Sum_apart : Mth P w K mg base 2 C "apart" (spApart K B C) [])
    (hlam : LamF base mg fd.code ((envOfC "_law_refused_right" (defScope s__law_refused_right) 0 0 fd.code).qual ++ "<lambda>") Ts) (F : FunD K "_law_refused_right" "_law_refused_right" (defArgs s__law_refused_right) (defBody s__law_refused_right) (defScope s__law_refused_right) [] [] f fd) : FnOk P w K mg base (L2.CX P w) 8 f fd ["_law_pen_here", "_law_one"] (spRefused K C Ts) :=
  okC F sc__law_refused_right (fun vs H Q E h => by obtain ⟨_, _, _, _, _, rfl, _⟩ := h; rfl) fun cdv A outer s H vs Q E hc hr h => ⟨t__law_refused_right K C B T Ts, (tm__law_refused_right c__law_pick h_heard m_Sum1 m_Sum2 o_Sum_Add b_Sum_Add o_Sum_Sub b_Sum_Sub c_Sum_apart (hc ▸ hlam) hr).nox, rd_refused S h⟩

theorem ok_law {P : Program} {w : World} {K : PySem.W.Frag} {mg : Str → Option Value} {base : Heap} {f : Addr} {fd : FuncData} {C B T : Addr} {Ts : List (Addr × Str)} (S : SumC K C) (c__law_pen : Cl P w K mg base 2 "_law_pen" (spPen K) []) (b_list : mg "list" = none) (g_Sum : ∃ u, mg "Sum" = some u ∧ RelV (.ref C) u) (b_isinstance : mg "isinstance" = none) (b_tuple : mg "tuple" = none) (b_range : mg "range" = none) (c__law_draw : Cl P w K mg base 2 "_law_draw" (spDraw K) []) (c__law_number : Cl P w K mg base 3 "_law_number" (spNumber K) []) (m_Sum2 : Mkr P w K mg base 3 "Sum" C (spInit K B C) []) (m_Sum1 : Mkr P w K mg base 3 "Sum" C (spInit K B C) [.int 0]) (o_Sum_Sub : OM P w K mg base 5 C "__sub__" (spAdd K B C fun i j => i - j)) (b_Sum_Sub : OwnBin K C "sub") (c__law_shown : Cl P w K mg base 2 "_law_shown" (spShown C) []) (o_Sum_Add : OM P w K mg base 5 C "__add__" (spAdd K B C fun i j => i + j)) (b_Sum_Add : OwnBin K C "add") (c__law_pick : Cl P w K mg base 3 "_law_pick" (spPick K) []) (m_Sum_K : MkK P w K mg base 3 "Sum" C (spInit K B C) ["number", "source"] List.reverse) (c_Sum_apart : Mth P w K mg base 2 C "apart" (spApart K B C) []) (b_bool : mg "bool" = none) (c__law_text : Cl P w K mg base 2 "_law_text" spText []) (b_str : mg "str" = none) (o_Sum__str__ : OM P w K mg base 3 C "__str__" (spStr C)) (c_Sum_read : StC P w K mg base 6 C "read" (spRead K T C)) (c__law_bent : Cl P w K mg base 4 "_law_bent" (spBent K) []) (c__law_told : Cl P w K mg base 2 "_law_told" spTold []) (h_heard : HeardF P w K mg B T) (c_Sum_read_K : StK P w K mg base 6 C "read" (spRead K T C) ["text"]) (b_len : mg "len" = none) (c__law_values_right : Cl P w K mg base 8 "_law_values_right" (spValues K C Ts) []) (c__law_refused_right : Cl P w K mg base 8 "_law_refused_right" (spRefused K C Ts) []) (off_Sum : ∃ g, PySem.W.findIn K (.ref C) "__eq__" = some (some (.ref g)) ∧ PySem.W.isFn K (.ref g) = true ∧ NiR P w K mg base 2 g (okOff K C)) (offC_Sum : OffC K C) (c__law_order_right : Cl P w K mg base 5 "_law_order_right" (spOrder K C) [])
    (hlam : LamF base mg fd.code ((envOfC "law" (defScope s_law) 0 0 fd.code).qual ++ "<lambda>") Ts) (F : FunD K "law" "law" (defArgs s_law) (defBody s_law) (defScope s_law) [] [] f fd) : FnOk P w K mg base (L2.CX P w) 10 f fd ["_law_script"] (spLaw K Ts) :=
  okC F sc_law (fun vs H Q E h => by obtain ⟨_, _, rfl, _⟩ := h; rfl) fun cdv A outer s H vs Q E hc hr h => ⟨t_law K C B T Ts, (tm_law c__law_pen b_list g_Sum b_isinstance b_tuple b_range c__law_draw c__law_number m_Sum2 m_Sum1 o_Sum_Sub b_Sum_Sub c__law_shown o_Sum_Add b_Sum_Add c__law_pick m_Sum_K c_Sum_apart b_bool c__law_text b_str o_Sum__str__ c_Sum_read c__law_bent c__law_told h_heard c_Sum_read_K b_len c__law_values_right c__law_refused_right off_Sum offC_Sum c__law_order_right (hc ▸ hlam) hr).nox, rd_law S h⟩

end K8
end
section
set_option linter.all false
set_option maxRecDepth 100000
set_option maxHeartbeats 0
open PySem PySem.Spec PyProof.Rows L2 Tk PySem.NumText TkH
namespace K8
/-! ### the head: defs, checks -/
def pd (x : Str) (st : Stmt) : PD := ⟨cl x, x, x, defArgs st, defBody st, defScope st, [], []⟩
def pm (m q : Str) (st : Stmt) (dfl : List V) : PD := ⟨mth "Sum" m, m, q, defArgs st, defBody st, defScope st, [], dfl⟩
def px (x q : Str) (st : Stmt) : PD := ⟨mth x "__init__", "__init__", q, defArgs st, defBody st, defScope st, ["__class__"], []⟩
abbrev s_BadSum : Stmt := inClass (top 5) 0
abbrev s_BadText : Stmt := inClass (top 6) 0
def fn : List PD := [pd "is_integer" s_is_integer, pd "written" s_written, pd "sum_in" s_sum_in, pd "_law_pen" s__law_pen, pd "_law_draw" s__law_draw, pd "_law_pick" s__law_pick, pd "_law_number" s__law_number, pd "_law_heard" s_heard, pd "_law_shown" s__law_shown, pd "_law_text" s__law_text, pd "_law_told" s__law_told, pd "_law_bent" s__law_bent,
  pd "_law_order_right" s__law_order_right, pd "_law_values_right" s__law_values_right, pd "_law_refused_right" s__law_refused_right, pd "law" s_law,
  pm "__init__" "Sum.__init__" s_Sum___init__ [.int 0], pm "__add__" "Sum.__add__" s_Sum___add__ [], pm "__sub__" "Sum.__sub__" s_Sum___sub__ [], pm "__eq__" "Sum.__eq__" s_Sum___eq__ [], pm "__lt__" "Sum.__lt__" s_Sum___lt__ [], pm "__le__" "Sum.__le__" s_Sum___le__ [], pm "__gt__" "Sum.__gt__" s_Sum___gt__ [], pm "__ge__" "Sum.__ge__" s_Sum___ge__ [],
  pm "apart" "Sum.apart" s_Sum_apart [], pm "value_in" "Sum.value_in" s_Sum_value_in [], pm "__str__" "Sum.__str__" s_Sum___str__ [], ⟨stF (cl "Sum") "read", "read", "Sum.read", defArgs s_Sum_read, defBody s_Sum_read, defScope s_Sum_read, [], []⟩,
  px "BadSum" "BadSum.__init__" s_BadSum, px "BadText" "BadText.__init__" s_BadText]
def gnames : List Str := ["is_integer", "written", "sum_in", "_law_pen", "_law_draw", "_law_pick", "_law_number", "_law_heard", "_law_shown", "_law_text", "_law_told", "_law_bent", "_law_order_right", "_law_values_right", "_law_refused_right", "law", "Sum", "BadSum", "BadText", "ToolError"]
def frees : List Str := ["isinstance", "int", "bool", "str", "list", "tuple", "dict", "len", "abs", "any", "range", "super", "NotImplemented", "zip"]
def methods : List Str := ["__add__", "__sub__", "__eq__", "__lt__", "__le__", "__gt__", "__ge__", "apart", "value_in", "__str__"]
def ckAll (l : List Str) (f : Str → He.Fa) (K : PySem.W.Frag) : Bool := l.all fun x => (f x).ok K
def fs : List (PySem.W.Frag → Bool) := [
  ckAll gnames .glo, ckAll frees .free, ckFa (.int "LONGEST" 60), ckFa (.str "FIGURES" "0123456789"), ckFa (.cls "Sum"), ckAll ["source", "number", "rank"] (.noat "Sum"), ckAll methods (.meth "Sum"), ckFa (.mkr "Sum"),
  ckOwn (cl "Sum"), ckNames (cl "Sum") "NAMES" (names.map V.str), ckSt (cl "Sum") "read", ckBin (cl "Sum") "__add__" "__radd__", ckBin (cl "Sum") "__sub__" "__rsub__", ckOff (cl "Sum"),
  fun K => eqO (PySem.W.findIn K (.ref (He.ga K "Sum")) "__ne__") (some (some (.builtin "object.__ne__"))),
  ckExc "BadSum" ["part"], ckExc "BadText" ["line", "word"], ckIni "BadSum" "/claim/cut.py", ckIni "BadText" "/claim/cut.py", ckFa (.exm "BadSum" "ToolError" true), ckFa (.exm "BadText" "ToolError" true),
  ckKit "BadSum" "BadSum" true, ckKit "BadText" "BadSum" false, ckKit "BadText" "BadText" true,
  fun K => decide ((cT K (He.ga K "_law_values_right")).2 ≠ (cT K (He.ga K "_law_refused_right")).2) && (decide ((cT K (He.ga K "_law_values_right")).2 ≠ (cT K (He.ga K "law")).2) && decide ((cT K (He.ga K "_law_refused_right")).2 ≠ (cT K (He.ga K "law")).2))]
def tf : List (PySem.W.Frag → Addr) := [cl "_law_values_right", cl "_law_refused_right", cl "law"]
abbrev R : PySem.W.OpenRow := PySem.W.OpenLaw.row PySem.Challenge.rw_takenup_k08_sums_and_their_order
abbrev hk : PySem.W.Hook := hookH 6 fn fs tf
def ob (s : PySem.W.SharedT) : AlH := obsH 6 fn fs tf (HandSHeadRun.getT s)
theorem ob_eq (s : PySem.W.SharedT) : ob s = hk.obs s.abs := obsH_eq (HandSHeadRun.getT_eq s)
def loose : List Str := ["is_integer", "written", "ToolError", "BadSum", "BadText", "FIGURES", "LONGEST", "Sum", "sum_in", "_law_pen", "_law_draw", "_law_pick", "_law_number", "_law_heard", "_law_shown", "_law_text", "_law_told", "_law_bent", "_law_order_right", "_law_values_right", "_law_refused_right"]
theorem run (w : World) : HandSHeadRun.RunEq R (PySem.W.view R.prog [25]) hk ob 3000 loose w := by
  intro os
  kernel_rfl
end K8
end
section
set_option linter.all false
set_option maxRecDepth 100000
set_option maxHeartbeats 4000000
open PySem PySem.Spec PyProof.Rows L2 Tk PySem.NumText TkH
namespace K8
section
variable {P : Program} {w : World} {K : PySem.W.Frag} {mg : Str → Option Value} {base : Heap} {x q m : Str} {params : Arguments} {body : List Stmt} {scope : Scope} {f C : Addr} {fd : FuncData} {ps : List Str} {sp : Sp} {k : Nat} {dvs : List V} {kws : List (Str × V)}
theorem cl_of (F : FunD K x q params body scope [] [] f fd) (ok : FnOk P w K mg base (L2.CX P w) k f fd ps sp) (hm : mg x = some (.ref f)) (hb : Binds K fd ps []) : Cl P w K mg base k x sp [] := ⟨f, fd, ps, [], ok, hm, F.kp, hb, .nil⟩
theorem mth_of (F : FunD K x q params body scope [] [] f fd) (ok : FnOk P w K mg base (L2.CX P w) k f fd ps sp) (c : Cls K C) (M : Meth K C m f) (hb : Binds K fd ps []) : Mth P w K mg base k C m sp [] := ⟨c, f, fd, ps, [], ok, M, hb, .nil⟩
theorem st_of (F : FunD K x q params body scope [] [] f fd) (ok : FnOk P w K mg base (L2.CX P w) k f fd ps sp) (S : StA K C m f) (hb : Binds K fd ps []) : StC P w K mg base k C m sp := ⟨f, fd, ps, ok, S, hb⟩
/-- keywords in the parameters' order, no defaults -/
theorem kbn_of (F : FunD K x q params body scope [] [] f fd) (n : Nat) (ks : List Str)
    (h : ∀ (kV doc pm : Value) (an : Option Addr) (cdv ct : Value) (us ws : List Value), us.length = n → ws.length = ks.length → bindArgs (PySem.W.fnOf x q params body scope .none kV doc pm an cdv ct) ⟨us, ks.zip ws⟩ = pure (ps.zip (us ++ ws))) :
    KBn K fd ps n ks (fun us ws => us ++ ws) (fun vs zs => vs ++ zs) := by
  obtain ⟨oc, od, dV, kV, doc, pm, an, cdv, ct, osl, rfl, lk, hcd, hD, hK⟩ := F.ex
  rcases hD with ⟨_, rfl⟩ | ⟨e, _⟩
  · exact ⟨fun s us ws X l1 l2 => .of_eq (h kV doc pm an cdv ct us ws l1 l2), fun r1 r2 => r1.append r2⟩
  · exact absurd rfl e
end
/-- == of a sum and another kind -/
theorem ni_eq {P : Program} {w : World} {K : PySem.W.Frag} {mg : Str → Option Value} {base : Heap} {f C : Addr} {fd : FuncData} (S : SumC K C) (bi : mg "isinstance" = none) (bn : mg "NotImplemented" = none) (g : ∃ u, mg "Sum" = some u ∧ RelV (.ref C) u)
    (F : FunD K "__eq__" "Sum.__eq__" (defArgs s_Sum___eq__) (defBody s_Sum___eq__) (defScope s_Sum___eq__) [] [] f fd) (hb : Binds K fd ["self", "other"] []) : NiR P w K mg base 2 f (okOff K C) := by
  refine ni_of F sc_Sum___eq__ hb (fun vs H h => by obtain ⟨a, s, n, y, g, rfl, _⟩ := h; rfl) fun cdv A outer s H vs hr h => ⟨_, nib_if (pt_not (pt_val (pe_callB call_isi (by rfl) bi (by decide +kernel) (pa_cons (pv 1) (pa_cons (C8.pe_gc (by rfl) g) pa_nil))))) (by rfl) bn, ?_⟩
  obtain ⟨a, s, n, y, g, rfl, Sa, iy, hg⟩ := h
  refine s_not ?_
  refine s_B ?_
  refine s_cb ?_
  refine s_cons ?_
  refine s_var (v := y) rfl ?_
  refine s_cons ?_
  refine s_c ?_
  refine s_nil ?_
  refine s_isiO iy (S.own.off g hg) ?_
  exact s_kB ⟨rfl, fun _ _ e => e⟩
/-- what an exception's def says, its cell and code named -/
theorem ini_of {K : PySem.W.Frag} {d : PD} {x : Str} (ha : d.at_ = mth x "__init__") (h1 : d.clo = ([("__class__" : Str)] : List Str)) (e : d.ok K = true ∧ fnC K (d.at_ K) = d.val) : ∃ (oc : Value) (od : Option Addr) (dV kV doc pm : Value) (an : Option Addr) (ct : Value) (osl : Array (Option Value)),
    K.lookup (He.ma K (He.ga K x) "__init__") = some ⟨oc, od, .func (PySem.W.ksFn d.name d.qual d.params d.body d.scope dV kV doc pm an (.ref (codeA K (He.ma K (He.ga K x) "__init__"))) ct (iniCell K (He.ma K (He.ga K x) "__init__"))), osl⟩ ∧ PySem.W.codeIn K (.ref (codeA K (He.ma K (He.ga K x) "__init__"))) d.qual = true ∧ DflV K dV d.dfl := by
  obtain ⟨kp, oc, od, dV, kV, doc, pm, an, cdv, ct, osl, cl, lk, hc, hcd, hd⟩ := PD.clo_ e.2 e.1
  rw [ha] at lk
  obtain ⟨c, rfl⟩ := He.codeIn_ref hcd
  rw [h1] at hc
  obtain ⟨cc, rfl⟩ : ∃ cc, cl = [(("__class__" : Str), cc)] := by
    match cl, hc with
    | [(n, cc)], hc => exact ⟨cc, by rw [show n = ("__class__" : Str) from by simpa using hc]⟩
  have e1 : codeA K (He.ma K (He.ga K x) "__init__") = c := codeA_eq lk rfl
  have e2 : iniCell K (He.ma K (He.ga K x) "__init__") = cc := by
    unfold iniCell
    rw [show K.lookup (He.ma K (He.ga K x) "__init__") = _ from lk]
  rw [e1, e2]
  exact ⟨oc, od, dV, kV, doc, pm, an, ct, osl, lk, hcd, hd⟩
theorem ini_sum {P : Program} {w : World} {K : PySem.W.Frag} {mg : Str → Option Value} (T : TkX.XTxt P K mg (He.ga K "BadSum") (He.ma K (He.ga K "BadSum") "__init__") (codeA K (He.ma K (He.ga K "BadSum") "__init__")) (iniCell K (He.ma K (He.ga K "BadSum") "__init__")))
    (e : (px "BadSum" "BadSum.__init__" s_BadSum).ok K = true ∧ fnC K ((px "BadSum" "BadSum.__init__" s_BadSum).at_ K) = (px "BadSum" "BadSum.__init__" s_BadSum).val) (hno : PySem.W.findIn K (.ref (He.ga K "BadSum")) "part" = some none) : TkX.XInit P w K mg (He.ga K "BadSum") (He.ma K (He.ga K "BadSum") "__init__") ["part"] := by
  obtain ⟨oc, od, dV, kV, doc, pm, an, ct, osl, lk, hcd, hd⟩ := ini_of (x := "BadSum") rfl rfl e
  rcases hd with ⟨_, rfl⟩ | ⟨z, _⟩
  · intro A s mb x t0 vs R hl X hg hb hbs hlim hx hnx hroom hq
    match vs, hl with
    | [v], _ =>
      exact TkX.x_init1 T lk hcd hno (.of_eq rfl) rfl rfl (by decide +kernel) rfl (by decide) (by decide) rfl rfl rfl rfl rfl rfl (fun L => ⟨_, rfl⟩) X hg hb hbs hlim hx hnx hroom (fun h' tk dx z => hq h' tk _ z)
  · exact absurd rfl z
theorem ini_text {P : Program} {w : World} {K : PySem.W.Frag} {mg : Str → Option Value} (T : TkX.XTxt P K mg (He.ga K "BadText") (He.ma K (He.ga K "BadText") "__init__") (codeA K (He.ma K (He.ga K "BadText") "__init__")) (iniCell K (He.ma K (He.ga K "BadText") "__init__")))
    (e : (px "BadText" "BadText.__init__" s_BadText).ok K = true ∧ fnC K ((px "BadText" "BadText.__init__" s_BadText).at_ K) = (px "BadText" "BadText.__init__" s_BadText).val) (hno : PySem.W.findIn K (.ref (He.ga K "BadText")) "line" = some none) (hno2 : PySem.W.findIn K (.ref (He.ga K "BadText")) "word" = some none) : TkX.XInit P w K mg (He.ga K "BadText") (He.ma K (He.ga K "BadText") "__init__") ["line", "word"] := by
  obtain ⟨oc, od, dV, kV, doc, pm, an, ct, osl, lk, hcd, hd⟩ := ini_of (x := "BadText") rfl rfl e
  rcases hd with ⟨_, rfl⟩ | ⟨z, _⟩
  · intro A s mb x t0 vs R hl X hg hb hbs hlim hx hnx hroom hq
    match vs, hl with
    | [v, v2], _ =>
      exact TkX.x_init2 T lk hcd hno hno2 (.of_eq rfl) rfl rfl (by decide +kernel) rfl (by decide) (by decide) rfl (by decide) (by decide) (by decide) rfl rfl rfl rfl rfl rfl (fun L => ⟨_, rfl⟩) X hg hb hbs hlim hx hnx hroom (fun h' tk dx z => hq h' tk _ z)
  · exact absurd rfl z
end K8
end
section
set_option linter.all false
set_option maxRecDepth 100000
set_option maxHeartbeats 4000000
open PySem PySem.Spec PyProof.Rows L2 Tk PySem.NumText TkH
namespace K8
def TsOf (K : PySem.W.Frag) : List (Addr × Str) := [((cT K (He.ga K "_law_values_right")).2, (envOfC "_law_values_right" (defScope s__law_values_right) 0 0 .none).qual ++ "<lambda>"), ((cT K (He.ga K "_law_refused_right")).2, (envOfC "_law_refused_right" (defScope s__law_refused_right) 0 0 .none).qual ++ "<lambda>"), ((cT K (He.ga K "law")).2, (envOfC "law" (defScope s_law) 0 0 .none).qual ++ "<lambda>")]
theorem code_of {K : PySem.W.Frag} {x q : Str} {params : Arguments} {body : List Stmt} {scope : Scope} {dvs : List V} {kws : List (Str × V)} {f : Addr} {fd : FuncData} (F : FunD K x q params body scope dvs kws f fd) : fd.code = .ref (codeA K f) := by
  obtain ⟨oc, od, dV, kV, doc, pm, an, cdv, ct, osl, rfl, lk, hcd, _, _⟩ := F.ex
  obtain ⟨c, rfl⟩ := He.codeIn_ref hcd
  rw [codeA_eq lk rfl]
theorem exc_no {x : Str} {fl : List Str} {K : PySem.W.Frag} (h : ckExc x fl K = true) : ∀ f ∈ fl, PySem.W.findIn K (.ref (He.ga K x)) f = some none := by
  obtain ⟨h1, h⟩ := ba h
  obtain ⟨h2, h⟩ := ba h
  obtain ⟨h3, h⟩ := ba h
  obtain ⟨h4, h⟩ := ba h
  obtain ⟨h5, h⟩ := ba h
  obtain ⟨h6, h⟩ := ba h
  obtain ⟨h7, h⟩ := ba h
  obtain ⟨h8, h⟩ := ba h
  obtain ⟨h9, h⟩ := ba h
  obtain ⟨h10, h⟩ := ba h
  obtain ⟨h11, h⟩ := ba h
  obtain ⟨h12, h⟩ := ba h
  obtain ⟨h13, h⟩ := ba h
  obtain ⟨h14, h⟩ := ba h
  obtain ⟨h15, h⟩ := ba h
  obtain ⟨h16, h⟩ := ba h
  obtain ⟨h17, h⟩ := ba h
  obtain ⟨h18, h⟩ := ba h
  exact fun f hf => of_decide_eq_true (List.all_eq_true.mp h f hf)
theorem law_facts {P : Program} (hfile : P.main.file = "/claim/cut.py") (htop : (P.main.scope.names.lookup ("super" : Str)).isSome = false) {w : World} {K : PySem.W.Frag} {h : Heap} {mg : Str → Option Value} (X : K.In h) (G : h.Ns mainGlobals mg) (c : SaysH fn fs tf h K) :
    ∃ fd : FuncData, (∀ (s : Shared) (v : Value), BindsTo s fd ⟨[v], []⟩ [("_law_script", v)]) ∧ ∀ base : Heap, K.In base → base.Ns mainGlobals mg → (∀ p ∈ tf, LamX.TabB base mg (cT K (p K)).1 (cT K (p K)).2) →
      FnOk P w K mg base (L2.CX P w) 10 (He.ga K "law") fd ["_law_script"] (spLaw K (TsOf K)) := by
  have glo : ∀ x ∈ gnames, mg x = some (.ref (He.ga K x)) := fun x hx => He.glo_ok X G (List.all_eq_true.mp (c.fact 0) x hx)
  have free : ∀ x ∈ frees, mg x = none := fun x hx => He.free_ok X G (List.all_eq_true.mp (c.fact 1) x hx)
  have cls : Cls K (He.ga K "Sum") := He.cls_ok (c.fact 4)
  have noat : ∀ x ∈ (["source", "number", "rank"] : List Str), NoAttr K (He.ga K "Sum") x := fun x hx => He.noat_ok (List.all_eq_true.mp (c.fact 5) x hx)
  have meth : ∀ m ∈ methods, Meth K (He.ga K "Sum") m (He.ma K (He.ga K "Sum") m) := fun m hm => He.meth_ok (List.all_eq_true.mp (c.fact 6) m hm)
  have mk : Mk K (He.ga K "Sum") (He.ma K (He.ga K "Sum") "__init__") := He.mkr_ok (c.fact 7)
  have own : OwnC K (He.ga K "Sum") := ckOwn_ok cls (c.fact 8)
  have S : SumC K (He.ga K "Sum") := ⟨own, ckNames_ok (C := cl "Sum") (c.fact 9), noat _ (by decide), noat _ (by decide), noat _ (by decide)⟩
  have sta : StA K (He.ga K "Sum") "read" (stF (cl "Sum") "read" K) := ckSt_ok (C := cl "Sum") (c.fact 10)
  have b_Sum_Add : OwnBin K (He.ga K "Sum") "add" := ckBin_ok (C := cl "Sum") (c.fact 11) (by decide +kernel) (by decide +kernel)
  have b_Sum_Sub : OwnBin K (He.ga K "Sum") "sub" := ckBin_ok (C := cl "Sum") (c.fact 12) (by decide +kernel) (by decide +kernel)
  have offC_Sum : OffC K (He.ga K "Sum") := ckOff_ok (C := cl "Sum") (c.fact 13)
  have n_Sum : PySem.W.findIn K (.ref (He.ga K "Sum")) "__ne__" = some (some (.builtin "object.__ne__")) := of_decide_eq_true (c.fact 14)
  have m_Sum := own.hm
  have e1 := c.fact 15
  have e2 := c.fact 16
  have g_LONGEST : ∃ u, mg "LONGEST" = some u ∧ RelV (.int 60) u := by obtain ⟨t, e⟩ := He.int_ok X G (c.fact 2); exact ⟨_, e, ⟨t, rfl⟩⟩
  have g_FIGURES : ∃ u, mg "FIGURES" = some u ∧ RelV (.str "0123456789") u := by obtain ⟨t, e⟩ := He.str_ok X G (c.fact 3); exact ⟨_, e, ⟨t, rfl⟩⟩
  have g_Sum : ∃ u, mg "Sum" = some u ∧ RelV (.ref (He.ga K "Sum")) u := ⟨_, glo "Sum" (by decide), rfl⟩
  have b_isinstance := free "isinstance" (by decide)
  have b_int := free "int" (by decide)
  have b_bool := free "bool" (by decide)
  have b_str := free "str" (by decide)
  have b_list := free "list" (by decide)
  have b_tuple := free "tuple" (by decide)
  have b_dict := free "dict" (by decide)
  have b_len := free "len" (by decide)
  have b_abs := free "abs" (by decide)
  have b_any := free "any" (by decide)
  have b_range := free "range" (by decide)
  have b_super := free "super" (by decide)
  have b_ni := free "NotImplemented" (by decide)
  have b_zip := free "zip" (by decide)
  have t1 := exc_txt (P := P) (mg := mg) e1 (by rw [hfile]; exact c.fact 17) b_super htop
  have t2 := exc_txt (P := P) (mg := mg) e2 (by rw [hfile]; exact c.fact 18) b_super htop
  have no1 := exc_no e1
  have no2 := exc_no e2
  have x_BadSum : TkX.XCls P w K mg "BadSum" (He.ga K "BadSum") ["part"] := exc_cls e1 (glo _ (by decide)) t1 (ini_sum t1 (c.defs _ (by simp [fn])) (no1 _ (by decide)))
  have x_BadText : TkX.XCls P w K mg "BadText" (He.ga K "BadText") ["line", "word"] := exc_cls e2 (glo _ (by decide)) t2 (ini_text t2 (c.defs _ (by simp [fn])) (no2 _ (by decide)) (no2 _ (by decide)))
  obtain ⟨f0, F0⟩ := c.def_ 0 rfl
  obtain ⟨f1, F1⟩ := c.def_ 1 rfl
  obtain ⟨f2, F2⟩ := c.def_ 2 rfl
  obtain ⟨f3, F3⟩ := c.def_ 3 rfl
  obtain ⟨f4, F4⟩ := c.def_ 4 rfl
  obtain ⟨f5, F5⟩ := c.def_ 5 rfl
  obtain ⟨f6, F6⟩ := c.def_ 6 rfl
  obtain ⟨f7, F7⟩ := c.def_ 7 rfl
  obtain ⟨f8, F8⟩ := c.def_ 8 rfl
  obtain ⟨f9, F9⟩ := c.def_ 9 rfl
  obtain ⟨f10, F10⟩ := c.def_ 10 rfl
  obtain ⟨f11, F11⟩ := c.def_ 11 rfl
  obtain ⟨f12, F12⟩ := c.def_ 12 rfl
  obtain ⟨f13, F13⟩ := c.def_ 13 rfl
  obtain ⟨f14, F14⟩ := c.def_ 14 rfl
  obtain ⟨f15, F15⟩ := c.def_ 15 rfl
  obtain ⟨f16, F16⟩ := c.def_ 16 rfl
  obtain ⟨f17, F17⟩ := c.def_ 17 rfl
  obtain ⟨f18, F18⟩ := c.def_ 18 rfl
  obtain ⟨f19, F19⟩ := c.def_ 19 rfl
  obtain ⟨f20, F20⟩ := c.def_ 20 rfl
  obtain ⟨f21, F21⟩ := c.def_ 21 rfl
  obtain ⟨f22, F22⟩ := c.def_ 22 rfl
  obtain ⟨f23, F23⟩ := c.def_ 23 rfl
  obtain ⟨f24, F24⟩ := c.def_ 24 rfl
  obtain ⟨f25, F25⟩ := c.def_ 25 rfl
  obtain ⟨f26, F26⟩ := c.def_ 26 rfl
  obtain ⟨f27, F27⟩ := c.def_ 27 rfl
  have h_heard : HeardF P w K mg (He.ga K "BadSum") (He.ga K "BadText") := ⟨⟨_, _, F7, glo _ (by decide)⟩, x_BadSum, x_BadText, ⟨_, glo "ToolError" (by decide), He.exm_ok (x := "BadSum") (y := "ToolError") (c.fact 19), He.exm_ok (x := "BadText") (y := "ToolError") (c.fact 20)⟩, b_isinstance, of_decide_eq_true (c.fact 21), of_decide_eq_true (c.fact 22), of_decide_eq_true (c.fact 23)⟩
  have dist := c.fact 24
  refine ⟨f15, fun s v => FunD.bindsA (ps := ["_law_script"]) F15 (fun _ _ _ _ _ _ us hl => match us, hl with | [_], _ => rfl) s [v] rfl, fun base Xb Gb TB => ?_⟩
  have c_is_integer := cl_of F0 (ok_is_integer (P := P) (w := w) (mg := mg) (base := base) b_isinstance b_int b_bool F0) (glo _ (by decide)) (F0.bindsN fun _ _ _ _ _ _ us hl => match us, hl with | [_], _ => rfl)
  have c_written := cl_of F1 (ok_written (P := P) (w := w) (mg := mg) (base := base) b_abs F1) (glo _ (by decide)) (F1.bindsN fun _ _ _ _ _ _ us hl => match us, hl with | [_], _ => rfl)
  have okI := ok_Sum___init__ (P := P) (w := w) (mg := mg) (base := base) (B := He.ga K "BadSum") (T := He.ga K "BadText") S b_isinstance b_str g_Sum x_BadSum c_is_integer F16
  have m_Sum1 : Mkr P w K mg base 3 "Sum" (He.ga K "Sum") (spInit K (He.ga K "BadSum") (He.ga K "Sum")) [.int 0] := by
    obtain ⟨ds, r, b⟩ := F16.binds1 (ps := ["self", "source", "number"]) 2 0 (List.cons_ne_nil _ _) rfl (fun T kV doc pm an cdv ct us its h1 h2 => match us, h1, its, h2 with | [_, _], _, [_], _ => ⟨_, rfl, rfl⟩)
    exact ⟨_, _, _, ds, okI, mk, glo _ (by decide), b, r⟩
  have m_Sum2 : Mkr P w K mg base 3 "Sum" (He.ga K "Sum") (spInit K (He.ga K "BadSum") (He.ga K "Sum")) [] := by
    obtain ⟨ds, r, b⟩ := F16.binds1 (ps := ["self", "source", "number"]) 3 1 (List.cons_ne_nil _ _) rfl (fun T kV doc pm an cdv ct us its h1 h2 => match us, h1, its, h2 with | [_, _, _], _, [_], _ => ⟨_, rfl, rfl⟩)
    exact ⟨_, _, _, ds, okI, mk, glo _ (by decide), b, r⟩
  have m_Sum_K : MkK P w K mg base 3 "Sum" (He.ga K "Sum") (spInit K (He.ga K "BadSum") (He.ga K "Sum")) ["number", "source"] List.reverse := by
    obtain ⟨its, kb⟩ := F16.kbindsD (ps := ["self", "source", "number"]) 1 ["number", "source"] (fun us _ ws => us ++ ws.reverse) (List.cons_ne_nil _ _) (fun r1 _ r3 => r1.append r3.reverse) (fun T kV doc pm an cdv ct us its ws h1 h2 h3 => match us, h1, its, h2, ws, h3 with | [_], _, [_], _, [_, _], _ => ⟨_, rfl, rfl⟩)
    exact ⟨_, _, _, _, _, okI, mk, glo _ (by decide), kb, fun x zs _ => rfl⟩
  have B17 : Binds K f17 ["self", "other"] [] := F17.bindsN fun _ _ _ _ _ _ us hl => match us, hl with | [_, _], _ => rfl
  have B18 : Binds K f18 ["self", "other"] [] := F18.bindsN fun _ _ _ _ _ _ us hl => match us, hl with | [_, _], _ => rfl
  have B19 : Binds K f19 ["self", "other"] [] := F19.bindsN fun _ _ _ _ _ _ us hl => match us, hl with | [_, _], _ => rfl
  have B20 : Binds K f20 ["self", "other"] [] := F20.bindsN fun _ _ _ _ _ _ us hl => match us, hl with | [_, _], _ => rfl
  have B21 : Binds K f21 ["self", "other"] [] := F21.bindsN fun _ _ _ _ _ _ us hl => match us, hl with | [_, _], _ => rfl
  have B22 : Binds K f22 ["self", "other"] [] := F22.bindsN fun _ _ _ _ _ _ us hl => match us, hl with | [_, _], _ => rfl
  have B23 : Binds K f23 ["self", "other"] [] := F23.bindsN fun _ _ _ _ _ _ us hl => match us, hl with | [_, _], _ => rfl
  have B24 : Binds K f24 ["self", "other"] [] := F24.bindsN fun _ _ _ _ _ _ us hl => match us, hl with | [_, _], _ => rfl
  have B25 : Binds K f25 ["self", "numbers"] [] := F25.bindsN fun _ _ _ _ _ _ us hl => match us, hl with | [_, _], _ => rfl
  have B26 : Binds K f26 ["self"] [] := F26.bindsN fun _ _ _ _ _ _ us hl => match us, hl with | [_], _ => rfl
  have B27 : Binds K f27 ["text"] [] := F27.bindsN fun _ _ _ _ _ _ us hl => match us, hl with | [_], _ => rfl
  have o_Sum_Add := (mth_of F17 (ok_Sum___add__ (P := P) (w := w) (mg := mg) (base := base) (B := He.ga K "BadSum") (T := He.ga K "BadText") S c_is_integer x_BadSum m_Sum2 F17) cls (meth "__add__" (by decide)) B17).om
  have o_Sum_Sub := (mth_of F18 (ok_Sum___sub__ (P := P) (w := w) (mg := mg) (base := base) (B := He.ga K "BadSum") (T := He.ga K "BadText") S c_is_integer x_BadSum m_Sum2 F18) cls (meth "__sub__" (by decide)) B18).om
  have o_Sum__eq__ := (mth_of F19 (ok_Sum___eq__ (P := P) (w := w) (mg := mg) (base := base) (B := He.ga K "BadSum") (T := He.ga K "BadText") S b_isinstance g_Sum F19) cls (meth "__eq__" (by decide)) B19).om
  have o_Sum__lt__ := (mth_of F20 (ok_Sum___lt__ (P := P) (w := w) (mg := mg) (base := base) (B := He.ga K "BadSum") (T := He.ga K "BadText") S b_isinstance g_Sum F20) cls (meth "__lt__" (by decide)) B20).om
  have o_Sum__le__ := (mth_of F21 (ok_Sum___le__ (P := P) (w := w) (mg := mg) (base := base) (B := He.ga K "BadSum") (T := He.ga K "BadText") S b_isinstance g_Sum F21) cls (meth "__le__" (by decide)) B21).om
  have o_Sum__gt__ := (mth_of F22 (ok_Sum___gt__ (P := P) (w := w) (mg := mg) (base := base) (B := He.ga K "BadSum") (T := He.ga K "BadText") S b_isinstance g_Sum F22) cls (meth "__gt__" (by decide)) B22).om
  have o_Sum__ge__ := (mth_of F23 (ok_Sum___ge__ (P := P) (w := w) (mg := mg) (base := base) (B := He.ga K "BadSum") (T := He.ga K "BadText") S b_isinstance g_Sum F23) cls (meth "__ge__" (by decide)) B23).om
  have c_Sum_apart := mth_of F24 (ok_Sum_apart (P := P) (w := w) (mg := mg) (base := base) (B := He.ga K "BadSum") (T := He.ga K "BadText") S b_isinstance g_Sum x_BadSum F24) cls (meth "apart" (by decide)) B24
  have okV := ok_Sum_value_in (P := P) (w := w) (mg := mg) (base := base) (B := He.ga K "BadSum") (T := He.ga K "BadText") S b_isinstance b_dict c_is_integer x_BadSum F25
  have c_Sum_value_in := mth_of F25 okV cls (meth "value_in" (by decide)) B25
  have c_Sum_value_in_K : MtK P w K mg base 3 (He.ga K "Sum") "value_in" (spValue K (He.ga K "BadSum") (He.ga K "Sum")) ["numbers"] :=
    ⟨cls, _, _, _, _, _, okV, meth "value_in" (by decide), kbn_of F25 1 ["numbers"] (fun _ _ _ _ _ _ us ws h1 h2 => match us, h1, ws, h2 with | [_], _, [_], _ => rfl), fun x zs _ => rfl⟩
  have o_Sum__str__ := (mth_of F26 (ok_Sum___str__ (P := P) (w := w) (mg := mg) (base := base) (B := He.ga K "BadSum") (T := He.ga K "BadText") S c_written F26) cls (meth "__str__" (by decide)) B26).om
  have off_Sum : ∃ g, PySem.W.findIn K (.ref (He.ga K "Sum")) "__eq__" = some (some (.ref g)) ∧ PySem.W.isFn K (.ref g) = true ∧ NiR P w K mg base 2 g (okOff K (He.ga K "Sum")) := ⟨_, (meth "__eq__" (by decide)).at_, (meth "__eq__" (by decide)).fn, ni_eq S b_isinstance b_ni g_Sum F19 B19⟩
  have c_sum_in := cl_of F2 (ok_sum_in (P := P) (w := w) (mg := mg) (base := base) (B := He.ga K "BadSum") (T := He.ga K "BadText") S g_Sum m_Sum1 b_len g_LONGEST b_any g_FIGURES b_int m_Sum2 F2) (glo _ (by decide)) (F2.bindsN fun _ _ _ _ _ _ us hl => match us, hl with | [_], _ => rfl)
  have okR := ok_Sum_read (P := P) (w := w) (mg := mg) (base := base) (B := He.ga K "BadSum") (T := He.ga K "BadText") S b_isinstance b_str x_BadText c_sum_in b_len F27
  have c_Sum_read := st_of F27 okR sta B27
  have c_Sum_read_K : StK P w K mg base 6 (He.ga K "Sum") "read" (spRead K (He.ga K "BadText") (He.ga K "Sum")) ["text"] :=
    ⟨_, _, _, _, _, okR, sta, kbn_of F27 0 ["text"] (fun _ _ _ _ _ _ us ws h1 h2 => match us, h1, ws, h2 with | [], _, [_], _ => rfl), fun zs _ => rfl⟩
  have c__law_pen := cl_of F3 (ok__law_pen (P := P) (w := w) (mg := mg) (base := base) b_list F3) (glo _ (by decide)) (F3.bindsN fun _ _ _ _ _ _ us hl => match us, hl with | [_], _ => rfl)
  have c__law_draw := cl_of F4 (ok__law_draw (P := P) (w := w) (mg := mg) (base := base) b_int b_len b_abs F4) (glo _ (by decide)) (F4.bindsN fun _ _ _ _ _ _ us hl => match us, hl with | [_, _], _ => rfl)
  have c__law_pick := cl_of F5 (ok__law_pick (P := P) (w := w) (mg := mg) (base := base) b_len c__law_draw F5) (glo _ (by decide)) (F5.bindsN fun _ _ _ _ _ _ us hl => match us, hl with | [_, _], _ => rfl)
  have c__law_number := cl_of F6 (ok__law_number (P := P) (w := w) (mg := mg) (base := base) c__law_draw F6) (glo _ (by decide)) (F6.bindsN fun _ _ _ _ _ _ us hl => match us, hl with | [_], _ => rfl)
  have c__law_shown := cl_of F8 (ok__law_shown (P := P) (w := w) (mg := mg) (base := base) S b_isinstance g_Sum b_str b_int b_bool F8) (glo _ (by decide)) (F8.bindsN fun _ _ _ _ _ _ us hl => match us, hl with | [_], _ => rfl)
  have c__law_text := cl_of F9 (ok__law_text (P := P) (w := w) (mg := mg) (base := base) b_str b_abs F9) (glo _ (by decide)) (F9.bindsN fun _ _ _ _ _ _ us hl => match us, hl with | [_, _], _ => rfl)
  have c__law_told := cl_of F10 (ok__law_told (P := P) (w := w) (mg := mg) (base := base) b_len b_int F10) (glo _ (by decide)) (F10.bindsN fun _ _ _ _ _ _ us hl => match us, hl with | [_], _ => rfl)
  have c__law_bent := cl_of F11 (ok__law_bent (P := P) (w := w) (mg := mg) (base := base) c__law_draw b_len c__law_pick F11) (glo _ (by decide)) (F11.bindsN fun _ _ _ _ _ _ us hl => match us, hl with | [_, _], _ => rfl)
  have c__law_order_right := cl_of F12 (ok__law_order_right (P := P) (w := w) (mg := mg) (base := base) S b_zip o_Sum__ge__ o_Sum__gt__ o_Sum__le__ o_Sum__lt__ o_Sum__eq__ n_Sum m_Sum F12) (glo _ (by decide)) (F12.bindsN fun _ _ _ _ _ _ us hl => match us, hl with | [_, _], _ => rfl)
  obtain ⟨d1, d2⟩ := ba dist
  obtain ⟨d2, d3⟩ := ba d2
  have d1 := of_decide_eq_true d1
  have d2 := of_decide_eq_true d2
  have d3 := of_decide_eq_true d3
  have l13 : LamF base mg f13.code ((envOfC "_law_values_right" (defScope s__law_values_right) 0 0 f13.code).qual ++ "<lambda>") (TsOf K) := by
    refine ⟨_, _, code_of F13, TB (cl "_law_values_right") (by simp [tf]), List.mem_cons_self, fun p hp e => ?_⟩
    simp only [TsOf, List.mem_cons, List.not_mem_nil, or_false] at hp
    rcases hp with rfl | rfl | rfl
    · rfl
    · exact absurd e d1.symm
    · exact absurd e d2.symm
  have l14 : LamF base mg f14.code ((envOfC "_law_refused_right" (defScope s__law_refused_right) 0 0 f14.code).qual ++ "<lambda>") (TsOf K) := by
    refine ⟨_, _, code_of F14, TB (cl "_law_refused_right") (by simp [tf]), List.mem_cons_of_mem _ List.mem_cons_self, fun p hp e => ?_⟩
    simp only [TsOf, List.mem_cons, List.not_mem_nil, or_false] at hp
    rcases hp with rfl | rfl | rfl
    · exact absurd e d1
    · rfl
    · exact absurd e d3.symm
  have l15 : LamF base mg f15.code ((envOfC "law" (defScope s_law) 0 0 f15.code).qual ++ "<lambda>") (TsOf K) := by
    refine ⟨_, _, code_of F15, TB (cl "law") (by simp [tf]), List.mem_cons_of_mem _ (List.mem_cons_of_mem _ List.mem_cons_self), fun p hp e => ?_⟩
    simp only [TsOf, List.mem_cons, List.not_mem_nil, or_false] at hp
    rcases hp with rfl | rfl | rfl
    · exact absurd e d2
    · exact absurd e d3
    · rfl
  have c__law_values_right := cl_of F13 (ok__law_values_right (P := P) (w := w) (mg := mg) (base := base) S b_dict c__law_number b_list c_Sum_value_in c_Sum_value_in_K c__law_pick h_heard l13 F13) (glo _ (by decide)) (F13.bindsN fun _ _ _ _ _ _ us hl => match us, hl with | [_, _, _, _], _ => rfl)
  have c__law_refused_right := cl_of F14 (ok__law_refused_right (P := P) (w := w) (mg := mg) (base := base) S c__law_pick h_heard m_Sum1 m_Sum2 o_Sum_Add b_Sum_Add o_Sum_Sub b_Sum_Sub c_Sum_apart l14 F14) (glo _ (by decide)) (F14.bindsN fun _ _ _ _ _ _ us hl => match us, hl with | [_, _], _ => rfl)
  exact ok_law S c__law_pen b_list g_Sum b_isinstance b_tuple b_range c__law_draw c__law_number m_Sum2 m_Sum1 o_Sum_Sub b_Sum_Sub c__law_shown o_Sum_Add b_Sum_Add c__law_pick m_Sum_K c_Sum_apart b_bool c__law_text b_str o_Sum__str__ c_Sum_read c__law_bent c__law_told h_heard c_Sum_read_K b_len c__law_values_right c__law_refused_right off_Sum offC_Sum c__law_order_right l15 F15
end K8
end
set_option linter.all false
set_option maxRecDepth 100000
set_option maxHeartbeats 0
namespace K8
open PySem PySem.Spec PyProof.Rows L2 Tk TkH
theorem tabs0 {K : PySem.W.Frag} {H : Hp} (h : ∀ p ∈ tf, H (cT K (p K)).2 = some (.tbl #[])) : LamX.Tabs (TsOf K) H := by
  have one : ∀ {P : Addr} {q : Str}, H P = some (.tbl #[]) → LamX.TabS H P q := fun e => ⟨#[], e, trivial, fun pos cv hc => by cases hc⟩
  intro p hp
  simp only [TsOf, List.mem_cons, List.not_mem_nil, or_false] at hp
  rcases hp with rfl | rfl | rfl
  · exact one (h (cl "_law_values_right") (by simp [tf]))
  · exact one (h (cl "_law_refused_right") (by simp [tf]))
  · exact one (h (cl "law") (by simp [tf]))
end K8
open PySem PySem.W PySem.Calls PyProof.Rows
theorem PySem.Challenge.cw_takenup_k08_sums_and_their_order_holds : PySem.Challenge.rw_takenup_k08_sums_and_their_order.Holds := by
  w_on; o_law
  refine HandSHeadRun.head_any (r := OpenLaw.row PySem.Challenge.rw_takenup_k08_sums_and_their_order) (q := view (OpenLaw.row PySem.Challenge.rw_takenup_k08_sums_and_their_order).prog [25]) (H := K8.hk) (ob := K8.ob) (M := 3000) (loose := K8.loose) (d := HandSHeadRun.topDef (OpenLaw.row PySem.Challenge.rw_takenup_k08_sums_and_their_order).prog 25) (kwd := []) K8.ob_eq
    (by kernel_rfl) (fun s => by kernel_rfl) K8.run (by kernel_rfl) (by kernel_rfl) (by kernel_rfl) (by rfl) (by first | assumption | decide +kernel) (by decide +kernel) ⟨rfl, rfl, rfl, rfl, rfl, by decide +kernel⟩ ?hw ?hc
  case hw => w_witness2
  case hc =>
    refine LamX.walk_ofTsE (l := PySem.Challenge.rw_takenup_k08_sums_and_their_order) (n := 63) (k := 10) (x := "_law_script") (CX := fun w => L2.CX (PySem.Challenge.rw_takenup_k08_sums_and_their_order).prog w) rfl (by decide) (by kernel_rfl) ⟨rfl, by decide, by decide⟩ ?F ?C
    case F =>
      intro w mg fa h Y G hmg0
      obtain ⟨K, KX, c⟩ := Y
      have hmg : mg ("law" : PySem.Str) = some (.ref fa) := by
        have e : (HandSHeadRun.topDef (OpenLaw.row PySem.Challenge.rw_takenup_k08_sums_and_their_order).prog 25).name = ("law" : PySem.Str) := by kernel_rfl
        rw [← e]
        exact hmg0
      have e := hmg.symm.trans (He.glo_ok KX G (List.all_eq_true.mp (show K8.ckAll K8.gnames .glo K = true from c.fact 0) "law" (by decide)))
      cases e
      obtain ⟨fd, hb, hF⟩ := K8.law_facts (P := (PySem.Challenge.rw_takenup_k08_sums_and_their_order).prog) (by kernel_rfl) (by decide +kernel) (w := w) KX G c
      refine ⟨K, KX, fd, K8.tf.map (fun p => TkH.cT K (p K)), K8.spLaw K (K8.TsOf K), fun p hp => ?_, fun p hp => ?_, fun p hp => ?_, hb, fun H a ns hl hbits hT hS => ?_, fun base Xb Gb TB => hF base Xb Gb fun p hp => TB _ (List.mem_map.mpr ⟨p, hp, rfl⟩)⟩
      · obtain ⟨p, hq, rfl⟩ := List.mem_map.mp hp; exact c.empty p hq
      · obtain ⟨p, hq, rfl⟩ := List.mem_map.mp hp; exact c.out p hq
      · obtain ⟨p, hq, rfl⟩ := List.mem_map.mp hp; exact PySem.W.codeHd_of_K KX (c.hd p hq)
      · exact ⟨a, ns, rfl, hS, K8.tabs0 (fun p hp => hT _ (List.mem_map.mpr ⟨p, hp, rfl⟩)), fun _ => rfl⟩
    case C =>
      intro w H s e s' h
      obtain ⟨_, _, _, _, _, _, _, _, _, _, _, _, z⟩ := h
      exact z
