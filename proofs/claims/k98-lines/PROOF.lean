import PyProof.Rows.All
import Wide.All
import OpenK.AllK
import Wide.FinOn
import KE.KStateDown
import HandS.ForMost
import HandS.Exc
import HandS.ExcOwn
import HandS.CallSlots
import HandS.More
import HandS.Defaults
import HandS.Codes
import HandS.TryMany
import HandS.TryOnly
import HandS.OwnEq
import HandS.DictComp
import HandS.IterNext
import HandS.IterVal
import HandS.IsInst
import HandS.MakeKw
import KE.KExcSuper
import KE.KTryMore
import PyProof.FactsSeq
import KE.KOwnIter
import HandS.Head0
import HandS.Head1
import HandS.Head2
import HandS.HeadEnd
import HandS.HeadHook1
import HandS.HeadHook2
import HandS.HeadHook3
import PySem.Challenge.RW_chieflayers_k98_lines_as_many_as_told
set_option Elab.async false
set_option linter.all false
set_option maxRecDepth 100000
set_option maxHeartbeats 2000000
/-! EX: own errors over ValueError with super().__init__; the head's facts of them. -/
namespace PySem
namespace ErrX
open PySem.W PySem.Calls PyProof.Rows PySem.HandSPX
/-- what super().__init__ is given: the parameter, a text -/
inductive ArgE (pn : Str) : Expr → Prop where
  | par (p : Pos) : ArgE pn (.Name pn p)
  | txt (z : Str) (j : Nat) (p : Pos) : ArgE pn (.Constant (.str z) j p)
def iA (pn : Str) (p1 p2 : Pos) : Arguments := { posonlyargs := [], args := [{ arg := "self", annotation := none, pos := p1 }, { arg := pn, annotation := none, pos := p2 }], vararg := none, kwonlyargs := [], kw_defaults := [], kwarg := none, defaults := [] }
def iB (pn : Str) (e : Expr) (q1 q2 q3 q4 q5 q6 q7 q8 q9 : Pos) : List Stmt := [.Expr (.Call (.Attribute (.Call (.Name "super" q1) [] [] q2) "__init__" q3) [e] [] q4) q5, .Assign [.Attribute (.Name "self" q6) pn q7] (.Name pn q8) q9]
def iS (pn : Str) : Scope := { kind := .function, names := [(PySem.Str.ofString "self", .local), (pn, .local), (PySem.Str.ofString "__class__", .free), (PySem.Str.ofString "super", .globalImplicit)], isGenerator := false, isCoroutine := false, more := [] }
/-- how the call of super's __init__ is evaluated -/
def CallEq (o e : Expr) (q3 q4 : Pos) : Prop := ∀ env : Env, ∃ pl : Sem Bool, eval (.Call (.Attribute o "__init__" q3) [e] [] q4) env = (do
  let ov ← attributeBase o "__init__" env (eval o env)
  standAt q3.atName
  let (f, first) ← holding [ov] (getMethod ov "__init__" pl)
  callWith q4 f first (backTo q4 (starEach [e] env)) [])
/-- what the written part says of the error named x, at C, of its __init__ at fI: its field and parameter pn -/
structure ErrTxt (prog : Program) (K : Frag) (mg : Str → Option Value) (x qual pn : Str) (C fI : Addr) : Prop where
  gC : mg x = some (.ref C)
  cls : ∃ nm q N bs bm sn sub ab col dd k0 k1 k2 k3 k5, K.lookup C = some (excClassObj nm q C N bs bm true sn sub ab col dd k0 k1 k2 k3 k5 "ValueError.__new__") ∧ refsVE bm = true
  sa : findIn K (.ref C) "__setattr__" = some (some (.builtin "object.__setattr__"))
  ga : findIn K (.ref C) "__getattribute__" = some (some (.builtin "BaseException.__getattribute__"))
  gg : findIn K (.ref C) "__getattr__" = some none
  noN : findIn K (.ref C) pn = some none
  iC : findIn K (.ref C) "__init__" = some (some (.ref fI))
  tC : typeIn K (.ref fI) = some (.type "function")
  kC : keepIn K (.ref C) = true
  exC : subIn K (.ref C) (.type "BaseException") = some true
  veC : subIn K (.ref C) (.type "ValueError") = some true
  exq : excInitIn K C [.type "ValueError", .type "Exception", .type "BaseException", .type "object"] "ValueError.__new__" = true
  mro : mroIn K C (.ref C) = some true
  sup : ks_superIn K C C "__init__" = some (some (.builtin "ValueError.__init__"))
  tp : nsIn K cStatics "thirdparty.any" = some none
  tyC : typeIn K (.ref C) = some (.type "type")
  hdC : hasDictIn K C = true
  te : exmOne K (.ref C) (.ref C) = some true
  sg : mg "super" = none
  top : (prog.main.scope.names.lookup ("super" : Str)).isSome = false
  npn : pn ≠ "self" ∧ pn ≠ "super" ∧ pn ≠ "__class__" ∧ (pn == ("__debug__" : Str)) = false
  fn : ∃ (oc cl : Value) (od cld : Option Addr) (doc pm : Value) (an : Option Addr) (cda : Addr) (ct : Value) (osl csl : Array (Option Value)) (cc : Addr) (e : Expr) (p1 p2 q1 q2 q3 q4 q5 q6 q7 q8 q9 : Pos) (occ : Obj) (vs : Array Value) (file : Str) (tf : Tok),
    K.lookup fI = some ⟨oc, od, .func (ksFn "__init__" qual (iA pn p1 p2) (iB pn e q1 q2 q3 q4 q5 q6 q7 q8 q9) (iS pn) .none .none doc pm an (.ref cda) ct cc), osl⟩ ∧ codeIn K (.ref cda) qual = true ∧ ArgE pn e ∧
    K.lookup cc = some ⟨cl, cld, .cell (some (.ref C)), csl⟩ ∧ K.lookup cda = some occ ∧ occ.data = .fields vs ∧ vs[2]? = some (.str file tf) ∧ ((prog.main.file : Str) == file) = true ∧
    CallEq (.Call (.Name "super" q1) [] [] q2) e q3 q4 ∧ ∀ (x : Addr) (v : Value), bindArgs (ksFn "__init__" qual (iA pn p1 p2) (iB pn e q1 q2 q3 q4 q5 q6 q7 q8 q9) (iS pn) .none .none doc pm an (.ref cda) ct cc) ⟨[.ref x, v], []⟩ = pure [(("self" : Str), Value.ref x), (pn, v)]
theorem ldN {M : Model} {s : Shared} {env : Env} {m : Str → Option Value} {x : Str} {pos : Pos} {v : Value} {Q : Value → Shared → Prop} {A : Around} {E : Value → Shared → Prop} (hn : s.heap.Ns env.locals m) (hv : m x = some v) (h : Q v s)
    (hk : env.scope.kind = .function) (hl : env.kindOf x = some .local) (hd : (x == ("__debug__" : Str)) = false) :
    wpAny M A (eval (.Name x pos) env) Q E s := wpAny_Name (wpAny_loadName_local hk hl hn hv h) hd
/-- what __init__ leaves of a fresh exception at x; hp: what stood ahead of it -/
structure InitEnd (hp h' : Heap) (x C dx : Addr) (pn : Str) (v : Value) : Prop where
  keep : ∀ b o, hp.get? b = some o → h'.get? b = some o
  obj : ∃ t1 : Addr, h'.get? x = some { cls := .ref C, dict := some dx, data := .fields #[.ref t1, .none, .none, .none, .bool false, .none] }
  dbig : hp.objs.size ≤ dx
  dne : dx ≠ x
  ns : h'.Ns1 dx (fun y => if y = pn then some v else none)
section
variable {prog : Program} {w : World} {A : Around} {E : Value → Shared → Prop} {R : Result → Shared → Prop} {s : Shared} {K : Frag} {mg mb : Str → Option Value} {nx qual pn : Str} {C fI : Addr}
theorem iS_self (pn : Str) : (iS pn).names.lookup ("self" : Str) = some .local := by simp [iS, List.lookup]
theorem iS_pn (h : pn ≠ "self") : (iS pn).names.lookup pn = some .local := by
  have e : (pn == ("self" : Str)) = false := by simpa using h
  show List.lookup pn ([(PySem.Str.ofString "self", .local), (pn, .local), (PySem.Str.ofString "__class__", .free), (PySem.Str.ofString "super", .globalImplicit)] : List (Str × NameKind)) = _
  rw [List.lookup_cons, show (pn == PySem.Str.ofString "self") = false from e, List.lookup_cons, beq_self_eq_true]
theorem iS_class (h : pn ≠ "__class__") : (iS pn).names.lookup ("__class__" : Str) = some .free := by
  have e : (("__class__" : Str) == pn) = false := by simpa using Ne.symm h
  show List.lookup ("__class__" : Str) ([(PySem.Str.ofString "self", .local), (pn, .local), (PySem.Str.ofString "__class__", .free), (PySem.Str.ofString "super", .globalImplicit)] : List (Str × NameKind)) = _
  rw [List.lookup_cons, show (("__class__" : Str) == PySem.Str.ofString "self") = false by decide, List.lookup_cons, e, List.lookup_cons, show (("__class__" : Str) == PySem.Str.ofString "__class__") = true by decide]
theorem iS_super (h : pn ≠ "super") : (iS pn).names.lookup ("super" : Str) = some .globalImplicit := by
  have e : (("super" : Str) == pn) = false := by simpa using Ne.symm h
  show List.lookup ("super" : Str) ([(PySem.Str.ofString "self", .local), (pn, .local), (PySem.Str.ofString "__class__", .free), (PySem.Str.ofString "super", .globalImplicit)] : List (Str × NameKind)) = _
  rw [List.lookup_cons, show (("super" : Str) == PySem.Str.ofString "self") = false by decide, List.lookup_cons, e, List.lookup_cons, show (("super" : Str) == PySem.Str.ofString "__class__") = false by decide, List.lookup_cons,
    show (("super" : Str) == PySem.Str.ofString "super") = true by decide]
theorem one_size (v : Value) : [v].length ≤ sizeLine := by
  rw [sizeLine_eq]
  exact (by decide : 1 ≤ 16777216)
theorem err_init (T : ErrTxt prog K mg nx qual pn C fI) {hp : Heap} {x t0 : Addr} {v : Value} (X : K.In hp) (kp : ∀ b o, hp.get? b = some o → s.heap.get? b = some o) (hlim : s.heap.NoLimit) (hg : s.heap.Ns mainGlobals mg) (hb : s.heap.Ns builtinsNs mb) (hsb : mb "super" = some (.type "super"))
    (hx : s.heap.get? x = some (excO C t0)) (hxn : hp.get? x = none) (hsz : hp.objs.size ≤ s.heap.objs.size) (hroom : A.depth < recursionLimit)
    (hq : ∀ h' tk dx, InitEnd hp h' x C dx pn v → R (.ok (.ret .none)) { s with heap := h', toks := tk }) :
    codeAny (model prog w) A (.call (.ref fI) ⟨[.ref x, v], []⟩) R s := by
  obtain ⟨oc, cl, od, cld, doc, pm, an, cda, ct, osl, csl, cc, e, p1, p2, q1, q2, q3, q4, q5, q6, q7, q8, q9, occ, vs, file, tf, ho, hcd, he, hcc, hco, hcv, hvs, hfile, hce, hbind⟩ := T.fn
  obtain ⟨nm, q, N, bs, bm, sn, sub, ab, col, dd, k0, k1, k2, k3, k5, hC, hbm⟩ := T.cls
  obtain ⟨n1, n2, n3, n4⟩ := T.npn
  have hcl : clsIn K C = some { name := nm, bases := bs, mro := .ref C :: bm, ns := N, qualname := q, hasDict := true, slotNames := sn, subclasses := sub, abstract := ab, collection := col, hasDel := false } := by unfold clsIn; rw [hC] <;> rfl
  have X0 : K.In s.heap := X.keeps kp
  refine ks_codeAny_call_defAt (binds := [("self", .ref x), (pn, v)]) hroom (X0 _ _ ho) rfl hlim (codeRec_of X0 hcd) rfl (BindsTo.of_eq (hbind x v)) (fun y hy => ?_) (fun y hy => ?_) (fun h₁ hns hk => ?_) rfl rfl rfl
  · have hy : y ∈ [(PySem.Str.ofString "self", NameKind.local), (pn, .local), (PySem.Str.ofString "__class__", .free), (PySem.Str.ofString "super", .globalImplicit)] := hy
    simp only [List.mem_cons, List.not_mem_nil, or_false] at hy
    rcases hy with rfl | rfl | rfl | rfl <;> exact fun z => by cases z
  · have hy : y = ((("self" : Str), Value.ref x)) ∨ y = (pn, v) := by simpa using hy
    rcases hy with rfl | rfl
    · exact iS_self pn
    · exact iS_pn n1
  · have k : ∀ b o, hp.get? b = some o → h₁.get? b = some o := fun b o z => hk b o (kp b o z)
    have X₁ : K.In h₁ := X.keeps k
    have hx₁ := hk _ _ hx
    have mS : ([(("self" : Str), Value.ref x), (pn, v)].reverse.lookup ("self" : Str)) = some (.ref x) := by
      have e : (("self" : Str) == pn) = false := by simpa using Ne.symm n1
      show List.lookup ("self" : Str) [(pn, v), ("self", Value.ref x)] = _
      rw [List.lookup_cons, e, List.lookup_cons, beq_self_eq_true]
    have mP : ([(("self" : Str), Value.ref x), (pn, v)].reverse.lookup pn) = some v := by
      show List.lookup pn [(pn, v), ("self", Value.ref x)] = _
      rw [List.lookup_cons, beq_self_eq_true]
    have hL : s.heap.objs.size ≠ x := Nat.ne_of_gt (Heap.lt_size hx)
    cases he
    all_goals (
        obtain ⟨pl, hpl⟩ := hce (ksEnv qual (iS pn) s.heap.objs.size fI (.ref cda) cc)
        refine ks_wpAt_execs_cons (ks_wpAt_Expr_any (ks_wpAt_MethodCall (pl := pl) ?_ hpl))
        refine ks_wpAt_super_base (env := ksEnv qual (iS pn) s.heap.objs.size fI (.ref cda) cc) (f := fI) (cc := cda) (vs := vs) (ar := { arg := "self", annotation := none, pos := p1 }) (iS_super n2) (iS_class n3) (by decide) rfl (X₁ _ _ ho) rfl rfl rfl (X₁ _ _ hco) hcv hvs hfile T.top ?_
        refine ks_loadName_global rfl (iS_super n2) (loadGlobal_builtin (hg.keeps hk) T.sg (hb.keeps hk) hsb ⟨rfl, ?_⟩)
        refine wpAny_loadName_free rfl (iS_class n3) rfl ⟨_, X₁ _ _ hcc, rfl⟩ ?_
        refine wpAny_loadName_local rfl (iS_self pn) hns mS ?_
        refine ks_wpAny_isType_cls (X₁ _ _ hC) rfl ⟨rfl, ?_⟩
        refine ks_wpAny_call_super (X₁ _ _ hC) rfl hx₁ rfl (fun c z => by cases z) (looks_mroIn X₁ T.mro) (fun h₂ hso k₂ => ?_)
        have lt1 : s.heap.objs.size < h₁.objs.size := hns.lt
        have F₂ : Fr hp s.heap.objs.size h₂ (fun y => [(("self" : Str), Value.ref x), (pn, v)].reverse.lookup y) := ⟨hns.keeps k₂, fun b o z => k₂ b o (k b o z), hsz⟩
        have nso : hp.get? h₁.objs.size = none := by
          cases z : hp.get? h₁.objs.size with
          | none => rfl
          | some o => exact absurd (Heap.lt_size z) (Nat.not_lt_of_le (Nat.le_trans hsz (Nat.le_of_lt lt1)))
        have N₂ : News hp s.heap.objs.size h₂ [(h₁.objs.size, ks_superObj C x C), (x, excO C t0)] := fun p hpp => by
          rcases List.mem_cons.mp hpp with rfl | hpp
          · exact ⟨hso, Nat.ne_of_gt lt1, nso⟩
          · rw [List.mem_singleton.mp hpp]
            exact ⟨k₂ _ _ hx₁, Ne.symm hL, hxn⟩
        refine kxs_method (x := x) (D := C) (C := C) (ox := excO C t0) (odx := none) kxs_ValueError F₂ X N₂ List.mem_cons_self ⟨k₂ _ _ hx₁, rfl, rfl, trivial⟩ T.tp T.sup T.veC (by decide) fun u h₃ F₃ N₃ l₃ => ?_
        -- behind the argument
        have fin : ∀ (c : Code) (a : Value) (tk : Nat), wpAny (model prog w) (A.deeper (ksEnv qual (iS pn) s.heap.objs.size fI (.ref cda) cc)) (call (.ref u) [a]) (fun _ s' => wpAt (model prog w) (A.deeper (ksEnv qual (iS pn) s.heap.objs.size fI (.ref cda) cc)) c
            (execs [.Assign [.Attribute (.Name "self" q6) pn q7] (.Name pn q8) q9] (ksEnv qual (iS pn) s.heap.objs.size fI (.ref cda) cc)) (fun f s' => R (.ok (.ret (match f with | .ret v => v | _ => .none))) s')
            (fun e s' => wpAny (model prog w) (A.deeper (ksEnv qual (iS pn) s.heap.objs.size fI (.ref cda) cc)) (leaving (ksEnv qual (iS pn) s.heap.objs.size fI (.ref cda) cc) e) (fun _ s'' => R (.error e) s'') (fun e' s'' => R (.error e') s'') s') s')
            (fun e s' => wpAny (model prog w) (A.deeper (ksEnv qual (iS pn) s.heap.objs.size fI (.ref cda) cc)) (leaving (ksEnv qual (iS pn) s.heap.objs.size fI (.ref cda) cc) e) (fun _ s'' => R (.error e) s'') (fun e' s'' => R (.error e') s'') s')
            { s with heap := h₃, toks := tk } := fun c a tk => by
          have ux : u ≠ x := fun z => by
            have := l₃ (x, excO C t0) (List.mem_cons_of_mem _ List.mem_cons_self)
            rw [z] at this
            exact absurd this (Nat.lt_irrefl _)
          have sx : h₁.objs.size ≠ x := Nat.ne_of_gt (Heap.lt_size hx₁)
          have U : UpdF x (excObj C t0 none .none) [(u, kxs_mw "ValueError.__init__" x), (h₁.objs.size, ks_superObj C x C), (x, excObj C t0 none .none)] (fun o' => [(u, kxs_mw "ValueError.__init__" x), (h₁.objs.size, ks_superObj C x C), (x, o')]) :=
            .tail ux (.tail sx (.head (fun p hp => by cases hp)))
          refine kxs_call (h₀ := hp) (K := K) F₃ X N₃ PySem.F.excBase_ValueError T.exq List.mem_cons_self U (one_size a) fun t' h₄ F₄ N₄ l₄ => ?_
          have hx₄ : h₄.get? x = some (excO C t') := (N₄ (x, excObj C t' none .none) (by simp)).1
          refine wpAt_of_wpAny (wpAny_execs_cons (plainObj_wpAny_Assign_Attribute ?_))
          refine ldN (v := v) F₄.ns mP (ldN (v := .ref x) F₄.ns mS ?_ rfl (iS_self pn) (by decide)) rfl (iS_pn n1) n4
          have X₄ : K.In h₄ := X.keeps F₄.keep
          refine set_plain X₄ (ox := excO C t') (od := none) ⟨hx₄, rfl, rfl, trivial⟩ T.sa ?_
          refine exc_osa X₄ hx₄ hcl (show refsVE (.ref C :: bm) = true from hbm) rfl T.noN (fun h₅ tk₅ dx k₅ dn dne hx₅ hn₅ => ?_)
          have ltL := F₄.ns.lt
          exact wpAny_execs_nil (hq h₅ tk₅ dx ⟨fun b o z => k₅ b o (fun y => by rw [y, hxn] at z; cases z) (F₄.keep b o z), ⟨t', hx₅⟩, Nat.le_trans hsz (Nat.le_trans (Nat.le_of_lt ltL) dn), dne, hn₅⟩)
        refine kxs_callWith1 N₃ List.mem_cons_self ?_
        have hu₃ : KxsAt "ValueError.__init__" u x h₃ := kxs_at N₃ List.mem_cons_self
        first
          | exact spliced_more (ldN (v := v) F₃.ns mP (spliced_none ⟨hu₃, fin _ v _⟩) rfl (iS_pn n1) n4)
          | exact spliced_more (Constant_str (spliced_none ⟨hu₃, fin _ _ _⟩)))
/-- a made error -/
structure OwnMade (h h' : Heap) (e C d : Addr) (pn : Str) (v : Value) : Prop where
  keep : ∀ b o, h.get? b = some o → h'.get? b = some o
  new : h.objs.size ≤ e
  obj : ∃ oe vs, h'.get? e = some oe ∧ oe.cls = .ref C ∧ oe.dict = some d ∧ oe.data = .fields vs ∧ vs[1]? = some .none
  dbig : h.objs.size ≤ d
  dne : d ≠ e
  ns : h'.Ns1 d (fun y => if y = pn then some v else none)
theorem err_made (T : ErrTxt prog K mg nx qual pn C fI) {v : Value} (X : K.In s.heap) (hlim : s.heap.NoLimit) (hg : s.heap.Ns mainGlobals mg) (hb : s.heap.Ns builtinsNs mb) (hsb : mb "super" = some (.type "super")) (hroom : A.depth + 1 < recursionLimit)
    (hq : ∀ h' tk e d, OwnMade s.heap h' e C d pn v → R (.ok (.ret (.ref e))) { s with heap := h', toks := tk }) :
    codeAny (model prog w) A (.call (.ref C) ⟨[v], []⟩) R s := by
  obtain ⟨nm, q, N, bs, bm, sn, sub, ab, col, dd, k0, k1, k2, k3, k5, hC, hbm⟩ := T.cls
  obtain ⟨hp, g, dr, tk, os⟩ := s
  have k : ∀ b o, hp.get? b = some o → ((hp.push (kdv_tup [v])).push (excO C hp.objs.size)).get? b = some o := fun b o e => Heap.get?_push_of_some _ (Heap.get?_push_of_some _ e)
  have hget : ((hp.push (kdv_tup [v])).push (excO C hp.objs.size)).get? (hp.objs.size + 1) = some (excO C hp.objs.size) := by heap_get
  have hnx : hp.get? (hp.objs.size + 1) = none := by
    cases e : hp.get? (hp.objs.size + 1) with
    | none => rfl
    | some o => exact absurd (Nat.lt_of_succ_lt (Heap.lt_size e)) (Nat.lt_irrefl _)
  refine call_own F.excBase_ValueError (fun X => refsVE_contains X bm hbm) (X _ _ hC) (looks_findIn X T.iC) (fun self => bind_fn X self T.tC) (one_size v) ?_
  refine err_init (s := ⟨(hp.push (kdv_tup [v])).push (excO C hp.objs.size), g, dr, tk, os⟩) T (hp := hp) X k (hlim.keeps k) (hg.keeps k) (hb.keeps k) hsb hget hnx ?_ ?_ fun h' tk' dx M => ?_
  · show hp.objs.size ≤ ((hp.push (kdv_tup [v])).push (excO C hp.objs.size)).objs.size
    rw [Heap.size_push, Heap.size_push]
    omega
  · show A.depth + 1 < recursionLimit
    exact hroom
  · obtain ⟨t1, hx⟩ := M.obj
    exact ⟨rfl, hq h' tk' (hp.objs.size + 1) dx ⟨M.keep, Nat.le_succ _, ⟨_, _, hx, rfl, rfl, rfl, rfl⟩, M.dbig, M.dne, M.ns⟩⟩
end
end ErrX
end PySem
namespace DL
open PySem PySem.Spec PyProof.Rows L2
theorem relO_err {pn : Str} {v : V} {v' : Value} (r : RelV v v') (f : Str) : RelO (List.lookup f [(pn, v)]) (if f = pn then some v' else none) := by
  by_cases hw : f = pn
  · subst hw
    rw [if_pos rfl]
    have q : List.lookup f [(f, v)] = some v := by simp [List.lookup]
    rw [q]
    exact r
  · rw [if_neg hw]
    have qw : (f == pn) = false := by simpa using hw
    have q2 : List.lookup f [(pn, v)] = none := by simp [List.lookup, qw]
    rw [q2]
    trivial
section
variable {X : Cx} {W : WX} {C fI : Addr} {nx qual pn : Str}
def tMkErr (pn : Str) (C : Addr) (ta : TA) : L2.St → Hp → XK → Prop := fun σ H Q => ta σ H fun vs H1 => ∃ v, vs = [v] ∧ ∀ d, H1 d = none → Q (.ref C) (some d) (upd H1 d (.xd [(pn, v)]))
theorem pmk_err {a : Expr} {ta : TA} {p pos : Pos} {k : Nat} (T : PySem.ErrX.ErrTxt X.prog X.K X.mg nx qual pn C fI) (hr : Room k X.A) (ha : PA X [a] ta) (hg : Gl X nx) (hd : (nx == ("__debug__" : Str)) = false)
    (he : starEach (a :: []) X.env = (false, eval a X.env) :: starEach [] X.env := by rfl) (hpl : (backTo pos (starEach [] X.env)).any (·.1) = false := by rfl) :
    PMk X (.Call (.Name nx p) [a] [] pos) (tMkErr pn C ta) := by
  intro pins s σ H Q I h
  refine wpAny_Call_Name_kw (ld_glob I hg T.gC ?_ hd)
  refine PySem.W.callWith_K (h₀ := X.base) I.ok.mod.kin T.kC (thn (ha.run pos pins s σ H _ I h) fun us s1 hh => ?_) he hpl
  obtain ⟨vs, H1, I1, r1, v, ev, q1⟩ := hh
  subst ev
  refine ⟨I1.kIn, ?_⟩
  cases r1 with
  | cons rv rn =>
    rename_i v' us'
    cases rn
    show wpAny _ _ (call (.ref C) [v']) _ _ _
    have hlim := I1.nolimit
    obtain ⟨mb, b1, b2⟩ := I1.mod.blt
    have gl := I1.mod.glob.keeps I1.bk
    have bl := b1.keeps I1.bk
    obtain ⟨hp, g, dr, tk, os⟩ := s1
    refine wpAny_call (PySem.ErrX.err_made T I1.kIn hlim gl bl ((b2 "super" (by decide)).trans PyProof.Rows.Boot.«super») (by have := hr.dp; omega) fun h' tk' e d M => ?_)
    show MkP X pins σ Q (.ref e) ⟨h', g, dr, tk', os⟩
    obtain ⟨oe, fv, hoe, hc, hd, hdat, h1⟩ := M.obj
    have hns := M.ns
    obtain ⟨G', g1, g2⟩ := restrict h' fun b => decide (b ≠ e)
    have gk : ∀ b, b ≠ e → G'.get? b = h'.get? b := fun b hb => g1 b (decide_eq_true hb)
    have ge : G'.get? e = none := g2 e (by simp)
    have old : ∀ b o, hp.get? b = some o → G'.get? b = some o := fun b o q => (gk b (Nat.ne_of_lt (Nat.lt_of_lt_of_le (Heap.lt_size q) M.new))).trans (M.keep b o q)
    have ob : ObjOk X.prog X.w (upd H1 d (.xd [(pn, v)])) G' d (.xd [(pn, v)]) :=
      ⟨_, hns.at (fun o q => (gk d M.dne).trans q), fun f => relO_err rv f⟩
    have J : Inv X pins σ (upd H1 d (.xd [(pn, v)])) ⟨G', g, dr, tk', os⟩ := I1.laid (t' := tk') old M.dbig ob
    refine ⟨e, oe, fv, ⟨G', g, dr, tk', os⟩, _, .ref C, some d, rfl, J, fun b o q => ?_, ge, hoe, ⟨hc, hd⟩, hdat, h1, ?_, rfl, I1.bare, raises_own T.exC T.tyC, q1 d (I1.hok.fresh M.dbig)⟩
    · by_cases hb : b = e
      · have q' : G'.get? b = some o := q
        rw [hb, ge] at q'; cases q'
      · exact (gk b hb).symm.trans q
    · rw [upd_ne (Ne.symm M.dne)]
      exact I1.hok.fresh M.new
end
end DL
namespace DL
open PySem PySem.Spec PyProof.Rows L2
section
variable {X : Cx} {W : WX} {C fI : Addr} {nx qual pn : Str}
def tByErr (pn : Str) (C : Addr) (a : Addr) (cls : Value) (d : Option Addr) (te : TE) : TE := fun σ H Q => te σ H fun x H1 => x = .ref a ∧ cls = .ref C ∧ ∃ (dd : Addr) (v : V), d = some dd ∧ H1 dd = some (.xd [(pn, v)]) ∧ Q v H1
theorem pe_byErr {a : Addr} {oe : Obj} {cls : Value} {d : Option Addr} {pn' : List (Addr × Obj)} {e : Expr} {te : TE} {pos : Pos} (T : PySem.ErrX.ErrTxt X.prog X.K X.mg nx qual pn C fI) (hz : Zc cls d oe) (hf : ∃ vs, oe.data = .fields vs) (he : PE (X.suite a ((a, oe) :: pn')) e te)
    (hb : attributeBase e pn X.env (eval e X.env) = eval e X.env) :
    PE (X.suite a ((a, oe) :: pn')) (.Attribute e pn pos) (tByErr pn C a cls d te) := by
  refine ⟨fun pins s σ H Q I h => ?_⟩
  refine attr_of hb (thn (he.run pins s σ H _ I h) fun u s1 hh => ?_)
  obtain ⟨x, H1, I1, rx, ex, ec, dd, v, ed, ea, q⟩ := hh
  subst ex
  obtain rfl : u = Value.ref a := rx
  subst ec
  subst ed
  obtain ⟨ha, _⟩ := I1.pin (a, oe) (List.mem_append_left _ List.mem_cons_self)
  obtain ⟨vs, hd⟩ := hf
  have hx : ObjOk X.prog X.w H1 s1.heap dd (.xd [(pn, v)]) := I1.hok dd _ ea
  obtain ⟨mA, hns, hr⟩ := hx
  obtain ⟨od, ho, hl⟩ := lookIn_ns hns
  have l : List.lookup pn [(pn, v)] = some v := by simp [List.lookup]
  obtain ⟨u, hu, ru⟩ := RelO.some_of (v := v) (o := mA pn) (by rw [← l]; exact hr pn)
  have J : PySem.W.InstAt s1.heap a oe C (some od) := ⟨ha, hz.1, by unfold PySem.W.notCls; rw [hd] <;> rfl, by rw [hz.2]; exact ho⟩
  exact HandSPX.exc_get I1.kIn J T.ga T.gg T.exC (PySem.W.findObj_own T.hdC T.noN rfl (by rw [hl, hu])) (handed_of ru) ⟨v, H1, I1.tok _, ru, q⟩
end
structure EIn where
  x : Str
  pn : Str
  params : Arguments
  body : List Stmt
  scope : Scope
def EIn.qual (e : EIn) : Str := e.x ++ ".__init__"
abbrev FnE : Type := Option (Str × Str × Arguments × FuncBody × Scope × Addr × List Str × Addr)
def fnE (K : PySem.W.Frag) (e : EIn) : FnE := match K.lookup (He.fAd K (e.x, some "__init__")) with
  | some ⟨_, _, .func fd, _⟩ => some (fd.name, fd.qualname, fd.params, fd.body, fd.scope, fd.globals, fd.closure.map (·.1), fd.builtins)
  | _ => none
def EIn.val (e : EIn) : FnE := some ("__init__", e.qual, e.params, .stmts e.body, e.scope, mainGlobals, ["__class__"], builtinsNs)
/-- the one cell holds the class -/
def cellB (K : PySem.W.Frag) (x : Str) : List (Str × Addr) → Bool
  | [(_, cc)] => (match K.lookup cc with
    | some ⟨_, _, .cell (some (.ref D)), _⟩ => decide (D = He.ga K x)
    | _ => false)
  | _ => false
/-- the code object is of the program's file -/
def fileB (prog : Program) (K : PySem.W.Frag) : Value → Bool
  | .ref cda => (match K.lookup cda with
    | some ⟨_, _, .fields vs, _⟩ => (match vs[2]? with
      | some (Value.str file _) => ((prog.main.file : Str) == file)
      | _ => false)
    | _ => false)
  | _ => false
/-- the object at fI, as far as it is asked with a Bool: no defaults, its code, its cell -/
def fnEB (prog : Program) (K : PySem.W.Frag) (e : EIn) : Bool := match K.lookup (He.fAd K (e.x, some "__init__")) with
  | some ⟨_, _, .func fd, _⟩ => decide (fd.defaults = .none) && (decide (fd.kwdefaults = .none) && (PySem.W.codeIn K fd.code e.qual && (cellB K e.x fd.closure && fileB prog K fd.code)))
  | _ => false
def clsEB (K : PySem.W.Frag) (x : Str) : Bool := match K.lookup (He.ga K x) with
  | some ⟨.type t, _, .cls cd, sl⟩ => decide (t = "type") && (match cd.mro, sl.toList with
    | .ref C :: bm, [_, _, _, _, some (.builtin n), _] => decide (C = He.ga K x) && (decide (n = "ValueError.__new__") && (cd.hasDict && (!cd.hasDel && PySem.HandSPX.refsVE bm)))
    | _, _ => false)
  | _ => false
theorem clsEB_ok {K : PySem.W.Frag} {x : Str} (h : clsEB K x = true) : ∃ nm q N bs bm sn sub ab col dd k0 k1 k2 k3 k5, K.lookup (He.ga K x) = some (excClassObj nm q (He.ga K x) N bs bm true sn sub ab col dd k0 k1 k2 k3 k5 "ValueError.__new__") ∧ PySem.HandSPX.refsVE bm = true := by
  unfold clsEB at h
  split at h
  · rename_i t dd cd sl hl
    obtain ⟨h1, h2⟩ := He.ba h
    have h1 := of_decide_eq_true h1
    split at h2
    · rename_i C bm k0 k1 k2 k3 n k5 e1 e2
      obtain ⟨a1, a2⟩ := He.ba h2
      obtain ⟨a3, a4⟩ := He.ba a2
      obtain ⟨a5, a6⟩ := He.ba a4
      obtain ⟨a7, a8⟩ := He.ba a6
      have a1 := of_decide_eq_true a1
      have a3 := of_decide_eq_true a3
      subst a1 a3
      obtain ⟨nm, bs, mro, ns, qn, hd, sn, sb, ab, col, del⟩ := cd
      simp only at e1 a5 a7
      subst e1 a5
      have a7 : del = false := by simpa using a7
      subst a7
      have es : sl = #[k0, k1, k2, k3, some (.builtin "ValueError.__new__"), k5] := by
        apply Array.ext'
        exact e2
      subst es
      rw [h1] at hl
      exact ⟨nm, qn, ns, bs, bm, sn, sb, ab, col, dd, k0, k1, k2, k3, k5, hl, a8⟩
    · cases h2
  · cases h
def veList : List Value := [.type "ValueError", .type "Exception", .type "BaseException", .type "object"]
/-- the rest that is asked of the class -/
def moreEB (K : PySem.W.Frag) (x pn : Str) : Bool := He.eqO (PySem.W.findIn K (.ref (He.ga K x)) "__setattr__") (some (some (.builtin "object.__setattr__"))) && (He.eqO (PySem.W.findIn K (.ref (He.ga K x)) "__getattribute__") (some (some (.builtin "BaseException.__getattribute__"))) &&
  (He.eqO (PySem.W.findIn K (.ref (He.ga K x)) "__getattr__") (some none) && (He.eqO (PySem.W.findIn K (.ref (He.ga K x)) pn) (some none) && (He.eqO (PySem.W.findIn K (.ref (He.ga K x)) "__init__") (some (some (.ref (He.fAd K (x, some "__init__"))))) &&
  (decide (PySem.W.typeIn K (.ref (He.fAd K (x, some "__init__"))) = some (.type "function")) && (PySem.W.keepIn K (.ref (He.ga K x)) && (decide (PySem.W.subIn K (.ref (He.ga K x)) (.type "BaseException") = some true) && (decide (PySem.W.subIn K (.ref (He.ga K x)) (.type "ValueError") = some true) &&
  (PySem.W.excInitIn K (He.ga K x) veList "ValueError.__new__" && (decide (PySem.W.mroIn K (He.ga K x) (.ref (He.ga K x)) = some true) && (decide (PySem.W.ks_superIn K (He.ga K x) (He.ga K x) "__init__" = some (some (.builtin "ValueError.__init__"))) && (He.eqO (PySem.W.nsIn K cStatics "thirdparty.any") (some none) &&
  (decide (PySem.W.typeIn K (.ref (He.ga K x)) = some (.type "type")) && (PySem.W.hasDictIn K (He.ga K x) && decide (PySem.W.exmOne K (.ref (He.ga K x)) (.ref (He.ga K x)) = some true)))))))))))))))
theorem errTxt_of {prog : Program} {K : PySem.W.Frag} {h : Heap} {mg : Str → Option Value} {e : EIn} {ex : Expr} {p1 p2 q1 q2 q3 q4 q5 q6 q7 q8 q9 : Pos} (X : K.In h) (G : h.Ns mainGlobals mg) (hA : e.params = PySem.ErrX.iA e.pn p1 p2) (hB : e.body = PySem.ErrX.iB e.pn ex q1 q2 q3 q4 q5 q6 q7 q8 q9) (hS : e.scope = PySem.ErrX.iS e.pn)
    (hE : PySem.ErrX.ArgE e.pn ex) (hcall : PySem.ErrX.CallEq (.Call (.Name "super" q1) [] [] q2) ex q3 q4)
    (hbind : ∀ (doc pm : Value) (an : Option Addr) (cda : Addr) (ct : Value) (cc : Addr) (x : Addr) (v : Value), bindArgs (PySem.W.ksFn "__init__" e.qual (PySem.ErrX.iA e.pn p1 p2) (PySem.ErrX.iB e.pn ex q1 q2 q3 q4 q5 q6 q7 q8 q9) (PySem.ErrX.iS e.pn) .none .none doc pm an (.ref cda) ct cc) ⟨[.ref x, v], []⟩ = pure [(("self" : Str), Value.ref x), (e.pn, v)])
    (npn : e.pn ≠ "self" ∧ e.pn ≠ "super" ∧ e.pn ≠ "__class__" ∧ (e.pn == ("__debug__" : Str)) = false) (top : (prog.main.scope.names.lookup ("super" : Str)).isSome = false)
    (hv : fnE K e = e.val) (hb : fnEB prog K e = true) (hc : clsEB K e.x = true) (hm : moreEB K e.x e.pn = true) (hg : (He.Fa.glo e.x).ok K = true) (hsu : (He.Fa.free "super").ok K = true) :
    PySem.ErrX.ErrTxt prog K mg e.x e.qual e.pn (He.ga K e.x) (He.fAd K (e.x, some "__init__")) := by
  unfold moreEB at hm
  obtain ⟨m1, hm⟩ := He.ba hm
  obtain ⟨m2, hm⟩ := He.ba hm
  obtain ⟨m3, hm⟩ := He.ba hm
  obtain ⟨m4, hm⟩ := He.ba hm
  obtain ⟨m5, hm⟩ := He.ba hm
  obtain ⟨m6, hm⟩ := He.ba hm
  obtain ⟨m7, hm⟩ := He.ba hm
  obtain ⟨m8, hm⟩ := He.ba hm
  obtain ⟨m9, hm⟩ := He.ba hm
  obtain ⟨m10, hm⟩ := He.ba hm
  obtain ⟨m11, hm⟩ := He.ba hm
  obtain ⟨m12, hm⟩ := He.ba hm
  obtain ⟨m13, hm⟩ := He.ba hm
  obtain ⟨m14, hm⟩ := He.ba hm
  obtain ⟨m15, m16⟩ := He.ba hm
  refine ⟨He.glo_ok X G hg, clsEB_ok hc, He.eqO_ok m1, He.eqO_ok m2, He.eqO_ok m3, He.eqO_ok m4, He.eqO_ok m5, of_decide_eq_true m6, m7, of_decide_eq_true m8, of_decide_eq_true m9, m10, of_decide_eq_true m11, of_decide_eq_true m12, He.eqO_ok m13, of_decide_eq_true m14, m15, of_decide_eq_true m16, He.free_ok X G hsu, top, npn, ?_⟩
  unfold fnE at hv
  unfold fnEB at hb
  cases hl : K.lookup (He.fAd K (e.x, some "__init__")) with
  | none =>
    rw [hl] at hv
    cases hv
  | some o =>
    obtain ⟨oc, od, dt, osl⟩ := o
    rw [hl] at hv hb
    cases dt with
    | func fd =>
      obtain ⟨n1, n2, n3, n4, n5, n6, n7, n8, n9, n10, n11, n12, n13, n14, n15⟩ := fd
      have hv : (some (n1, n2, n3, n4, n5, n6, n7.map (·.1), n15) : FnE) = some ((("__init__" : Str)), e.qual, e.params, FuncBody.stmts e.body, e.scope, mainGlobals, [(("__class__" : Str))], builtinsNs) := hv
      simp only [Option.some.injEq, Prod.mk.injEq] at hv
      obtain ⟨v1, v2, v3, v4, v5, v6, v7, v8⟩ := hv
      have hb : (decide (n8 = .none) && (decide (n9 = .none) && (PySem.W.codeIn K n13 e.qual && (cellB K e.x n7 && fileB prog K n13)))) = true := hb
      obtain ⟨b1, hb⟩ := He.ba hb
      obtain ⟨b2, hb⟩ := He.ba hb
      obtain ⟨b5, hb⟩ := He.ba hb
      obtain ⟨b6, b4⟩ := He.ba hb
      have c1 : n8 = .none := of_decide_eq_true b1
      have c2 : n9 = .none := of_decide_eq_true b2
      have hl0 := hl
      rw [v1, v2, v3, v4, v5, v6, v8, c1, c2] at hl
      cases n7 with
      | nil => cases b6
      | cons p rest =>
        cases rest with
        | cons _ _ => cases b6
        | nil =>
          obtain ⟨nm, cc⟩ := p
          have v7' : nm = "__class__" := by simpa using v7
          rw [v7'] at hl
          have b6' : (match K.lookup cc with
            | some ⟨_, _, .cell (some (.ref D)), _⟩ => decide (D = He.ga K e.x)
            | _ => false) = true := b6
          split at b6'
          · rename_i cl cld D csl hcc
            have hD := of_decide_eq_true b6'
            rw [hD] at hcc
            cases n13 with
            | ref cda =>
              have b4' : (match K.lookup cda with
                | some ⟨_, _, .fields vs, _⟩ => (match vs[2]? with
                  | some (Value.str file _) => ((prog.main.file : Str) == file)
                  | _ => false)
                | _ => false) = true := b4
              split at b4'
              · rename_i k1 k2 vs k3 hco
                split at b4'
                · rename_i file tf hvs
                  rw [hA, hB, hS] at hl
                  exact ⟨oc, cl, od, cld, n10, n11, n12, cda, n14, osl, csl, cc, ex, p1, p2, q1, q2, q3, q4, q5, q6, q7, q8, q9, _, vs, file, tf, hl0.symm.trans hl, b5, hE, hcc, hco, rfl, hvs, b4', hcall, hbind n10 n11 n12 cda n14 cc⟩
                · cases b4'
              · cases b4'
            | _ => cases b4
          · cases b6'
    | _ => cases hv
end DL

set_option Elab.async false
set_option linter.all false
set_option maxRecDepth 100000
set_option maxHeartbeats 2000000
/-! R98: rules: a try whose first clause meets all; len and iteration of an own object; lists of the same objects; a written dict asked. -/
namespace DL
open PySem PySem.Spec PyProof.Rows L2 ItX
section
variable {X : Cx}
/-! ### lists of the same objects -/
def rNeSame : R2 := fun x y H Q => ∃ a b xs, x = .ref a ∧ y = .ref b ∧ H a = some (.lst xs) ∧ H b = some (.lst xs) ∧ (∀ v ∈ xs, ∃ p, v = V.ref p) ∧ Q (.bl false) H
theorem vals_refs : ∀ {xs : List V} {us ws : List Value}, (∀ v ∈ xs, ∃ p, v = V.ref p) → Vals xs us → Vals xs ws → us = ws
  | [], _, _, _, r, q => by
    cases r
    cases q
    rfl
  | x :: xs, _, _, h, r, q => by
    cases r with
    | cons r1 r2 =>
      cases q with
      | cons q1 q2 =>
        obtain ⟨p, rfl⟩ := h x List.mem_cons_self
        cases r1
        cases q1
        rw [vals_refs (fun v hv => h v (List.mem_cons_of_mem _ hv)) r2 q2]
theorem vals_ref_at {xs : List V} {us : List Value} (h : ∀ v ∈ xs, ∃ p, v = V.ref p) (r : Vals xs us) {j : Nat} (hj : j < us.length) : ∃ p, us[j] = Value.ref p := by
  induction r generalizing j with
  | nil => exact absurd hj (Nat.not_lt_zero _)
  | @cons x u xs us r1 r2 ih =>
    cases j with
    | zero =>
      obtain ⟨p, rfl⟩ := h x List.mem_cons_self
      cases r1
      exact ⟨p, rfl⟩
    | succ j => exact ih (fun v hv => h v (List.mem_cons_of_mem _ hv)) (by simpa using hj)
theorem op_neSame (hu : X.A.units < cLine) : OpR X (compareOp .NotEq) rNeSame := by
  intro pins s σ H x y v u Q I rx ry h
  obtain ⟨a, b, xs, rfl, rfl, ha, hb, hx, q⟩ := h
  cases rx
  cases ry
  obtain ⟨its, rv, p, hz⟩ := I.list (SqL.of ha)
  obtain ⟨its2, rv2, p2, hz2⟩ := I.list (SqL.of hb)
  obtain rfl := vals_refs hx rv rv2
  show wpAny (model X.prog X.w) X.A (richCompare .NotEq _ _) (EP X pins σ Q) X.xe s
  refine SeqAt.RcNeAt.lists (e := fun _ => true) p.isList p2.isList rfl hu (fun j h1 h2 => ?_) X.prog X.w X.xe _ ⟨.bl false, H, I, ?_, q⟩
  · obtain ⟨r, hr⟩ := vals_ref_at hx rv (j := j) (by simpa using h1)
    have e : its.toArray[j] = Value.ref r := by simpa using hr
    rw [e]
    exact SeqAt.EqAt.same (.ref r)
  · have : (List.range its.toArray.size).all (fun _ => true) = true := by simp
    rw [this]
    rfl

/-! ### len(o) by an own __len__ -/
section
variable {CX : CXT} {k : Nat} {f C : Addr} {fd : FuncData} {ps : List Str} {sp : Sp} {E : XK} {ds : List Value} {dvs : List V}
theorem run_fn_in {pins : List (Addr × Obj)} {σ : L2.St} {H : Hp} {s : Shared} {Q : VK} {us : List Value} {vs : List V} {A : Around} (F : FnOk X.prog X.w X.K X.mg X.base CX k f fd ps sp) (hr : Room k A) (hfr : A.frames = X.A.frames) (hb : Binds X.K fd ps ds) (hd : Vals dvs ds) (hx : Passes CX X E)
    (I : Inv X pins σ H s) (r : Vals vs us) (h : sp (vs ++ dvs) H Q E) : wpAny (model X.prog X.w) A (call (.ref f) us) (EP X pins σ Q) X.xe s := by
  have r2 : Vals (vs ++ dvs) (us ++ ds) := r.append hd
  have hl : (us ++ ds).length = ps.length := by rw [← r2.length]; exact F.len _ _ _ _ h
  have e0 : Env0 X.prog X.w X.K X.mg X.base A X.stack s H := by
    have e := I.env0
    exact ⟨by rw [hfr]; exact e.frames, e.mod, e.bs, e.bsz, e.funs, e.frf, e.hok, e.bare⟩
  refine wpAny_call (codeAny_mono (F.run A X.stack s H ⟨us, []⟩ (us ++ ds) (vs ++ dvs) Q E hr e0 (hb s us I.kIn hl) r2 h) fun r s' hq => ?_)
  cases r with
  | error e => exact hx pins σ H s e s' I hq
  | ok fl =>
    cases fl with
    | ret w =>
      obtain ⟨z, H', I', rz, q⟩ := I.after hq
      exact ⟨z, H', I', rz, q⟩
    | next => exact False.elim hq
    | brk => exact False.elim hq
    | cont => exact False.elim hq
def rLenO (C : Addr) (sp : Sp) (E : XK) (dvs : List V) : List V → Hp → VK → Prop := fun xs H Q => ∃ a dx fs, xs = [V.ref a] ∧ H a = some (.ins C dx fs) ∧ sp ([V.ref a] ++ dvs) H (fun v H1 => ∃ n : Int, v = .int n ∧ 0 ≤ n ∧ n < 2 ^ 63 ∧ Q (.int n) H1) E
theorem call_lenO (hs : Meth X.K C "__len__" f) (F : FnOk X.prog X.w X.K X.mg X.base CX k f fd ps sp) (hr : Room (k + 1) X.A) (hb : Binds X.K fd ps ds) (hd : Vals dvs ds) (hx : Passes CX X E) : CallR X (.builtin "len") (rLenO C sp E dvs) := by
  intro pins s σ H xs us Q I r h
  obtain ⟨a, dx, fs, rfl, ea, hsp⟩ := h
  obtain rfl := Vals.ref1 r
  obtain ⟨mA, O, _⟩ := ins_get I.hok ea
  obtain ⟨od, J, _⟩ := O.look
  refine Calls.call_function_entry PySem.kind_len PySem.plain_len PySem.entry_len (PySem.args_len1 _) ?_
  unfold Builtin.«len»
  refine wpAny_bind (m := oneArg "len" _) (wpAny_pure ?_)
  refine wpAny_bind (m := callSpecial? _ (Str.ofString "__len__")) (PySem.W.special_fn (name := "__len__") (args := []) I.kIn J hs.at_ (beq_iff_eq.mp hs.fn) (wpAny_mono (run_fn_in F hr.in1 rfl hb hd hx I (vs := [V.ref a]) (us := [Value.ref a]) (.cons rfl .nil) hsp) (fun u s1 hq => ?_) fun _ _ z => z))
  obtain ⟨v, H1, I1, rv, n, rfl, h0, h1, q⟩ := hq
  obtain ⟨t, rfl⟩ := rv
  refine wpAny_bind (wpAny_holding (wpAny_pure ?_))
  refine wpAny_bind (wpAny_letGo ?_)
  show wpAny _ _ (if n < 0 then _ else _) _ _ _
  rw [if_neg (by omega)]
  show wpAny _ _ (if n ≥ 2 ^ 63 then _ else _) _ _ _
  rw [if_neg (by omega)]
  exact wpAny_bind (wpAny_mkInt (wpAny_pure ⟨_, rfl, .int n, H1, I1.tok _, ⟨_, rfl⟩, q⟩))
end

/-! ### try: the first clause meets every error -/
/-- the clause's test says yes to an error of the class cls -/
def Catch (X : Cx) (t : Expr) (cls : Value) : Prop := ∀ (ps : List (Addr × Obj)) (a : Addr) (oe : Obj) (σ : L2.St) (H : Hp) (s : Shared) (Q : Bool → Shared → Prop) (E : Value → Shared → Prop), Inv (X.suite a ((a, oe) :: ps)) [] σ H s → PySem.W.Looks (model X.prog X.w) s.heap (typeOf (.ref a)) cls →
  (∀ h' tk, (∀ q o, s.heap.get? q = some o → h'.get? q = some o) → Q true { s with heap := h', toks := tk }) →
  wpAny (model X.prog X.w) (X.A.mark (some (.ref a))) (eval t X.env) (fun c s1 => wpAny (model X.prog X.w) (X.A.mark (some (.ref a))) (excMatches (.ref a) c) Q E s1) E s
theorem catch_name {x : Str} {c cls : Value} {p : Pos} (h : Names X x c) (he : PySem.W.exmOne X.K cls c = some true) : Catch X (.Name x p) cls := fun ps a oe σ H s Q E I LT q => by
  have fin := (PySem.W.exm_one (M := model X.prog X.w) I.kIn LT he).here (A := X.A.mark (some (.ref a))) (Q := Q) (E := E) (s := s) (q s.heap s.toks fun _ _ z => z)
  obtain ⟨g1, g2, g3 | ⟨g3, g4, g5⟩⟩ := h
  · exact ld_glob (X := X.suite a ((a, oe) :: ps)) I g1 g3 fin g2
  · exact ld_blt (X := X.suite a ((a, oe) :: ps)) I g1 g3 g4 fin g5 g2
theorem catch_tup3 {x1 x2 x3 : Str} {c1 c2 c3 cls : Value} {p1 p2 p3 p : Pos} {j : Nat} (m1 : X.mg x1 = some c1) (m2 : X.mg x2 = some c2) (m3 : X.mg x3 = some c3) (he : PySem.W.exmAny X.K cls [c1, c2, c3] = some true)
    (g1 : Gl X x1 := by rfl) (g2 : Gl X x2 := by rfl) (g3 : Gl X x3 := by rfl) (d1 : (x1 == ("__debug__" : Str)) = false := by decide) (d2 : (x2 == ("__debug__" : Str)) = false := by decide) (d3 : (x3 == ("__debug__" : Str)) = false := by decide) :
    Catch X (.Tuple [.Name x1 p1, .Name x2 p2, .Name x3 p3] j p) cls := fun ps a oe σ H s Q E I LT q => by
  refine wpAny_Tuple ?_
  refine wpAny_items_cons (ld_glob (X := X.suite a ((a, oe) :: ps)) I g1 m1 ?_ d1)
  refine wpAny_items_cons (ld_glob (X := X.suite a ((a, oe) :: ps)) I g2 m2 ?_ d2)
  refine wpAny_items_cons (ld_glob (X := X.suite a ((a, oe) :: ps)) I g3 m3 ?_ d3)
  refine wpAny_items_nil ⟨by size_fits, ?_⟩
  have kp : ∀ b o, s.heap.get? b = some o → (s.heap.push { cls := .type "tuple", data := .seq [c1, c2, c3].toArray }).get? b = some o := fun _ _ z => Heap.get?_push_of_some _ z
  exact (PySem.W.exm_tup3 (M := model X.prog X.w) (I.kIn.keeps kp) (LT.keeps kp) (Heap.get?_push_size s.heap rfl) he).here (q _ _ kp)
theorem fly_more {base : Heap} {l : List PySem.Env} {e : Addr} {Z : Obj → Prop} {h h' : Heap} (f : HandSPX.FlyingZ base l e Z h) (k : ∀ b o, h.get? b = some o → h'.get? b = some o) : HandSPX.FlyingZ base l e Z h' := by
  obtain ⟨f1, f2, f3, oe, vs, T, oT, ts, t1, t2, t3, t4, t5, t6, t7, t8, t9⟩ := f
  exact ⟨fun b o z => k b o (f1 b o z), f2, f3.of_keeps fun b o z _ => ⟨o, k b o z, rfl⟩, oe, vs, T, oT, ts, k _ _ t1, t2, t3, t4, t5, t6, k _ _ t7, t8, t9⟩
theorem ps_try1 {t : Expr} {M : Value → Prop} {body suite : List Stmt} {b₀ : Stmt} {hds : List ExceptHandler} {pos pos' : Pos} {tb : WX → TS} {ts : Addr → Value → Option Addr → TS} (hs : X.stack = X.env :: X.outer) (hf : X.env.frame = some X.env.locals) (ht : ∀ cls, M cls → Catch X t cls)
    (hb : ∀ (W : WX) (pn : List (Addr × Obj)) (xe : Value → Shared → Prop), Takes (X.tr pn xe) W → PassesOwn (model X.prog X.w) X.A X.env xe → PSs (X.tr pn xe) body (tb W))
    (hsu : ∀ (a : Addr) (oe : Obj) (cls : Value) (d : Option Addr) (pn : List (Addr × Obj)), Zc cls d oe → (∃ vs, oe.data = .fields vs) → PSs (X.suite a ((a, oe) :: pn)) (b₀ :: suite) (ts a cls d)) :
    PS X (.Try body (.ExceptHandler (some t) none (b₀ :: suite) pos' :: hds) [] [] pos) (fun D σ H => tb (fun cls d σ H => M cls ∧ ∀ a, H a = none → ts a cls d D σ H) D σ H) := by
  refine ⟨fun pins s σ H D I h => ?_⟩
  have ok := I.ok
  have frm : X.A.frames = some (X.env :: X.outer) := ok.frames.trans (by rw [hs])
  refine wpAny_Try_except ?_
  refine wpAny_mono ((hb _ (X.pn ++ pins) (fun e s1 => wpAny (model X.prog X.w) X.A (noteFrame e X.env) (fun _ s2 => wpAny (model X.prog X.w) X.A (setFlight e none) (fun _ s3 =>
    wpAny (model X.prog X.w) X.A (handleBy e X.env (.ExceptHandler (some t) none (b₀ :: suite) pos' :: hds)) (SP X pins D) X.xe s3) X.xe s2) X.xe s1) (fun u s' xx => ?_) PassesOwn.looking).run [] s σ H D (I.toTry _) h) (fun f s1 hsp => ?_) (fun e s1 he => he)
  · obtain ⟨a, B, sI, pins', σ', H', cls, d, rfl, J', nb, up, sky, na, os, ag, hM, hS⟩ := xx
    have J : Inv X pins σ' H' sI := J'.ofTry ok
    have sky2 : Sky B (X.env :: X.outer) a (Zc cls d) X.env.locals s'.heap := hs ▸ sky
    show wpAny (model X.prog X.w) X.A (noteFrame (.ref a) X.env) _ _ _
    refine Sky.land Zc.steady frm hf sky2 fun h3 fl3 up3 => ?_
    have J3 : Inv X pins σ' H' { s' with heap := h3 } := J.landed nb fl3.1 (up.trans up3) os ag
    obtain ⟨oe, vs, he, hz, hd⟩ := fl3.there
    have nfr : ∀ {h : Heap} {o : Obj} {vs : Array Value}, h.FunFrames B (X.env :: X.outer) → h.get? a = some o → o.data = .fields vs → a ∉ frs (X.env :: X.outer) := fun {h o vs} ff e dd hm => by
      obtain ⟨_, o2, e2, no⟩ := ff.mem hm
      rw [e] at e2
      cases e2
      exact no _ dd
    have n0 := nfr fl3.2.2.1 he hd
    have nL : a ≠ X.env.locals := fun z => n0 (List.mem_filterMap.mpr ⟨X.env, List.mem_cons_self, by rw [hf, z]⟩)
    have nF : a ∉ X.fs := fun hm => by
      obtain ⟨e, m1, m2⟩ := List.mem_filterMap.mp hm
      exact n0 (List.mem_filterMap.mpr ⟨e, List.mem_cons_of_mem _ m1, m2⟩)
    have S3 := J3.suite he hd na nL nF
    refine wpAny_handleBy_cons (codeAny_handlers_test ?_) (by intro q; cases q)
    have LT : PySem.W.Looks (model X.prog X.w) h3 (typeOf (.ref a)) cls := fun A Q E s k q => wpAny_typeOf_ref (k _ _ he) (by rw [hz.1]; exact q)
    refine ht cls hM (X.pn ++ pins) a oe σ' H' _ _ _ S3 LT fun h4 tk4 k4 => ?_
    refine codeAny_handlers_suite ?_
    have fl4 : HandSPX.FlyingZ B (X.env :: X.outer) a (Zc cls d) h4 := fly_more fl3 k4
    have up4 : sI.heap.UpToSlots h4 := (up.trans up3).trans fun b o z _ => ⟨o.slots, k4 b o z⟩
    refine HandSPX.lands_againZ (s := { s' with heap := h4, toks := tk4 }) fl4 fun h5 fl5 up5 => ?_
    have J5 : Inv X pins σ' H' { s' with heap := h5, toks := tk4 } := J.landed nb fl5.1 (up4.trans up5) os ag
    obtain ⟨oe5, vs5, he5, hz5, hd5⟩ := fl5.there
    have S5 := J5.suite he5 hd5 na nL nF
    refine wpAny_mono ((hsu a oe5 cls d (X.pn ++ pins) hz5 ⟨_, hd5⟩).run [] _ _ H' _ S5 (hS a na)) (fun f s6 hsp => ?_) (fun _ _ z => False.elim z)
    cases f with
    | ret u =>
      obtain ⟨v6, σ6, H6, S6, r6, q6⟩ := hsp
      exact ⟨_, _, _, S6.unsuite ok, r6, q6⟩
    | _ =>
      obtain ⟨σ6, H6, S6, q6⟩ := hsp
      exact ⟨_, _, S6.unsuite ok, q6⟩
  · cases f with
    | next =>
      obtain ⟨σ', H', J', q⟩ := hsp
      exact wpAny_execs_nil ⟨σ', H', J'.ofTry ok, q⟩
    | ret u =>
      obtain ⟨v, σ', H', J', r, q⟩ := hsp
      exact ⟨v, σ', H', J'.ofTry ok, r, q⟩
    | _ =>
      obtain ⟨σ', H', J', q⟩ := hsp
      exact ⟨σ', H', J'.ofTry ok, q⟩

/-! ### an own __iter__ that gives a list's iterator -/
/-- iter(l): the new address is above all that is tracked -/
def rIterT (K : PySem.W.Frag) : List V → Hp → VK → Prop := fun xs H Q => ∃ (l : Addr) (zs : List V), xs = [.ref l] ∧ SqL K H l zs ∧ ∀ it, (∀ b u, H b = some u → b < it) → H it = none → Q (.ref it) (upd H it (ItO l it 0))
theorem call_iterT : CallR X (.builtin "iter") (rIterT X.K) := by
  intro pins s σ H xs us Q I r h
  obtain ⟨l, zs, rfl, hq, q⟩ := h
  obtain rfl := Vals.ref1 r
  obtain ⟨its, rv, pl, hz⟩ := I.list hq
  refine GNX.call_iter pl.isList ?_
  refine ⟨.ref s.heap.objs.size, _, I.laid (t' := s.toks) (fun b u e => Heap.get?_push_of_some _ e) (Nat.le_refl _) (itO_ok (Heap.get?_push_size _ rfl)), rfl, q _ (fun b u e => ?_) (I.hok.fresh (Nat.le_refl _))⟩
  exact HOk.lt I.hok e
/-- [..], above the entry's heap -/
def tLstN (n : Nat) (t : TA) : TE := fun σ H Q => t σ H fun vs H1 => vs.length ≤ sizeLine ∧ ∀ l, H1 l = none → n ≤ l → Q (.ref l) (upd H1 l (.lst vs))
theorem pe_lstN {es : List Expr} {t : TA} {pos : Pos} (h : PA X es t) : PE X (.List es pos) (tLstN X.s_0.heap.objs.size t) := by
  refine ⟨fun pins s σ H Q I hq => ?_⟩
  refine wpAny_List_spliced (thn (h.run pos pins s σ H _ I hq) fun us s1 ⟨xs, H1, I1, r, z, q⟩ => ⟨by rw [← r.length]; exact z, ?_⟩)
  refine ⟨.ref s1.heap.objs.size, upd H1 s1.heap.objs.size (.lst xs), I1.laid (t' := s1.toks) (fun b u e => Heap.get?_push_of_some _ e) (Nat.le_refl _) ?_, rfl, q _ (I1.hok.fresh (Nat.le_refl _)) I1.sz⟩
  exact ⟨z, us, 0, r, Heap.get?_push_size _ rfl⟩
section
variable {CX : CXT} {k : Nat} {f C : Addr} {fd : FuncData} {ps : List Str} {sp : Sp} {E : XK} {ds : List Value} {dvs : List V}
def iOwn (K : PySem.W.Frag) (n : Nat) (C : Addr) (sp : Sp) (E : XK) (dvs : List V) (te : TE) : TI := fun σ H R => te σ H fun x H1 => ∃ a dx fs, x = V.ref a ∧ H1 a = some (.ins C dx fs) ∧ sp ([V.ref a] ++ dvs) H1 (fun v H2 => ∃ it l, v = V.ref it ∧ H2 it = some (ItO l it 0) ∧ n ≤ it ∧ R (ItlF K l 0) (dropH H2 it)) E
theorem pi_own {e tg : Expr} {te : TE} (he : PE X e te) (hs : Meth X.K C "__iter__" f) (F : FnOk X.prog X.w X.K X.mg X.base CX k f fd ps sp) (hr : Room k X.A) (hb : Binds X.K fd ps ds) (hd : Vals dvs ds) (hx : Passes CX X E) :
    PI X tg e (iOwn X.K X.s_0.heap.objs.size C sp E dvs te) := by
  refine ⟨fun pins s σ H R I h => ?_⟩
  refine thn (he.run pins s σ H _ I h) fun u s1 ⟨x, H1, I1, rx, a, dx, fs, ex, ea, hsp⟩ => ?_
  subst ex
  cases rx
  obtain ⟨mA, O, _⟩ := ins_get I1.hok ea
  obtain ⟨od, J, _⟩ := O.look
  obtain ⟨m, hF⟩ := I1.fr
  refine PySem.W.owit_iter hF I1.ok.mod.kin J hs.at_ hs.fn (wpAny_mono (run_fn F hr hb hd hx I1 (vs := [V.ref a]) (us := [Value.ref a]) (.cons rfl .nil) hsp) (fun u s2 hq => ?_) fun _ _ z => z)
  obtain ⟨v, H2, I2, rv, it, l, rfl, hi, hn, q⟩ := hq
  cases rv
  have eo := itO_get I2 hi
  unfold PySem.W.OwitIt
  refine wpAny_specialOf (name := Str.ofString "__next__") (T := "list_iterator") ⟨_, eo, rfl⟩ PySem.slot_listiter_next.lookup ?_
  have st : s2.heap.IsListIter it l (0 + 0) := ⟨_, eo, rfl, rfl⟩
  have hi' := hi
  unfold ItO at hi'
  refine ⟨it, [it], _, _, dropH H2 it, rfl, inv_drop I2 hi', turn_listF l it 0, st, fun b hb => ?_, q⟩
  have e : b = it := by simpa using hb
  rw [e]
  exact inv_fp I2 hi hn
end
end
end DL

set_option Elab.async false
set_option linter.all false
set_option maxRecDepth 100000
set_option maxHeartbeats 2000000
/-! R98b: an own instance made while an error is handled (its __init__ raises nothing); a written dict of texts asked by get. -/
namespace DL
open PySem PySem.Spec PyProof.Rows L2
/-- room for calls, whatever is handled -/
structure RoomA (k : Nat) (A : Around) : Prop where
  dp : A.depth + 3 * k + 5 < recursionLimit
  un : A.units + 16 * k + 200 < cLine
theorem RoomA.of {k : Nat} {A : Around} (r : Room k A) : RoomA k A := ⟨r.dp, r.un⟩
theorem RoomA.down {k : Nat} {A : Around} (r : RoomA (k + 1) A) (env : PySem.Env) : RoomA k (A.deeper env) := ⟨by
  have h := r.dp
  show A.depth + 1 + 3 * k + 5 < _
  omega, by
  have h := r.un
  show A.units + 3 + 16 * k + 200 < _
  omega⟩
/-- a def's promise, whatever is handled; it raises nothing -/
structure FnA (P : Program) (w : World) (K : PySem.W.Frag) (mg : Str → Option Value) (base : Heap) (k : Nat) (f : Addr) (fd : FuncData) (ps : List Str) (sp : Sp) : Prop where
  len : ∀ vs H Q E, sp vs H Q E → vs.length = ps.length
  run : ∀ (A : Around) (outer : List PySem.Env) (s : Shared) (H : Hp) (args : Args) (us : List Value) (vs : List V) (Q : VK) (E : XK), RoomA k A → Env0 P w K mg base A outer s H → BindsTo s fd args (ps.zip us) → Vals vs us → sp vs H Q E →
    codeAny (model P w) A (.call (.ref f) args) (CR CX0 outer P w H s Q E) s
abbrev cxA (P : Program) (w : World) (K : PySem.W.Frag) (mg : Str → Option Value) (base : Heap) (N : List Str) (qual : Str) (scope : Scope) (f : Addr) (cd : Value) (A : Around) (outer : List PySem.Env) (s : Shared) (H : Hp) (E : XK) : Cx :=
  { cxOf CX0 P w K mg base N qual scope f cd A outer s H E with calm := false }
theorem inv_startA {P : Program} {w : World} {K : PySem.W.Frag} {mg : Str → Option Value} {base : Heap} {N ps : List Str} {qual : Str} {scope : Scope} {f : Addr} {cd : Value} {A : Around} {outer : List PySem.Env} {s s1 : Shared} {H : Hp} {E : XK} {us : List Value} {vs : List V}
    (S : FnScope N ps scope) (e0 : Env0 P w K mg base A outer s H) (hl : vs.length = ps.length) (r : Vals vs us)
    (x : InCallC s s.heap.objs.size (bindL (envOfC qual scope s.heap.objs.size f cd).kindOf (ps.zip us) fun _ => none) (cellsFrom (s.heap.objs.size + 1) scope.names []) (bindC (envOfC qual scope s.heap.objs.size f cd).kindOf (ps.zip us) fun _ => none) s1) :
    Inv (cxA P w K mg base N qual scope f cd A outer s H E) [] (L2.start N vs) H s1 := by
  have J : Inv (cxOf CX0 P w K mg base N qual scope f cd { A with handled := none } outer s H E) [] (L2.start N vs) H s1 := inv_start S rfl ⟨e0.frames, e0.mod, e0.bs, e0.bsz, e0.funs, e0.frf, e0.hok, e0.bare⟩ hl r x
  have o := J.ok
  exact ⟨⟨o.mod, o.kind, o.glob, o.blt, o.above, o.inj, o.has, o.cab, fun z => Bool.noConfusion z, Around.frames_deeper e0.frames, o.stk, o.exf, o.bs, o.bsz, o.noex, o.exfs, o.funs, o.frf⟩, J.os, J.bare, J.base, J.loc, J.cell, J.free, J.freeC, J.pin, J.hok, J.len⟩
theorem fnA_of {P : Program} {w : World} {K : PySem.W.Frag} {mg : Str → Option Value} {base : Heap} {k : Nat} {f : Addr} {x qual : Str} {params : Arguments} {body : List Stmt} {scope : Scope} {dvs : List V} {kws : List (Str × V)} {fd : FuncData} {N ps : List Str} {sp : Sp} (F : FunD K x qual params body scope dvs kws f fd) (S : FnScope N ps scope)
    (len : ∀ vs H Q E, sp vs H Q E → vs.length = ps.length)
    (hb : ∀ (cdv : Value) (A : Around) (outer : List PySem.Env) (s : Shared) (H : Hp) (vs : List V) (Q : VK) (E : XK), RoomA k (A.deeper (envOfC qual scope s.heap.objs.size f cdv)) → sp vs H Q E →
      ∃ t, PSs (cxA P w K mg base N qual scope f cdv A outer s H E) body t ∧ t { nx := fun _ H' => Q .non H', rt := Q } (L2.start N vs) H) : FnA P w K mg base (k + 1) f fd ps sp := by
  obtain ⟨oc, od, dV, kV, doc, pm, an, cdv, ct, osl, rfl, lk, hcd, _, _⟩ := F.ex
  refine ⟨len, fun A outer s H args us vs Q E hr e0 hbd r hsp => ?_⟩
  have KX : K.In s.heap := e0.mod.kin.keeps fun b o e => (e0.bs b o e).1
  have lim : s.heap.NoLimit := e0.mod.nolimit.keeps fun b o e => (e0.bs b o e).1
  have knd : ∀ y ∈ ps.zip us, scope.names.lookup y.1 = some .local ∨ (scope.names.lookup y.1 = some .cell ∧ ((cellsFrom (s.heap.objs.size + 1) scope.names []).lookup y.1).isSome = true) := by
    rintro ⟨n, v⟩ hy
    cases S.par n (List.of_mem_zip hy).1 with
    | inl q => exact .inl q
    | inr q => exact .inr ⟨q, PySem.W.cellsFrom_some _ _ _ (.inl q)⟩
  refine codeAny_call_function (by have := hr.dp; omega) (KX _ _ lk) rfl S.co S.gen rfl (PySem.W.codeRec_of KX hcd) (hbd _ _ _ _ ?_)
  refine wpAny_newFunctionEnv_cells S.kind knd fun env he s1 x => ?_
  subst he
  refine ⟨lim.keeps x.toInCall.keep, codeAny_func ?_⟩
  obtain ⟨t, ht, hq⟩ := hb cdv A outer s H vs Q E (hr.down _) hsp
  have I := inv_startA (qual := qual) (f := f) (cd := cdv) (E := E) S e0 (len _ _ _ _ hsp) r x
  refine wpAny_mono (ht.run [] s1 (L2.start N vs) H _ I hq) (fun fl s' hs => ?_) fun e s' hs => hs
  cases fl with
  | ret u =>
    obtain ⟨v, σ', H', J, rv, q⟩ := hs
    exact ⟨v, H', J.os, J.bare, J.base, J.hok, rv, q⟩
  | next =>
    obtain ⟨σ', H', J, q⟩ := hs
    exact ⟨V.non, H', J.os, J.bare, J.base, J.hok, rfl, q⟩
  | brk =>
    obtain ⟨_, _, _, q⟩ := hs
    exact q.elim
  | cont =>
    obtain ⟨_, _, _, q⟩ := hs
    exact q.elim
section
variable {X : Cx} {k : Nat} {f C : Addr} {fd : FuncData} {ps : List Str} {sp : Sp} {ds : List Value} {dvs : List V} {x : Str} {e : Expr} {es : List Expr} {t : TA} {p pos : Pos}
theorem RoomA.make {A : Around} (r : RoomA (k + 1) A) (C : Addr) (us : List Value) (kw : List (Str × Value)) : RoomA k (A.under (.builtin "type.__call__" ⟨.ref C :: us, kw⟩)) := ⟨by
  have h := r.dp
  rw [make_depth]
  omega, by
  have h := r.un
  rw [make_units]
  omega⟩
theorem pe_makeA (M : Mk X.K C f) (F : FnA X.prog X.w X.K X.mg X.base k f fd ps sp) (hr : RoomA (k + 1) X.A) (hg : Gl X x) (hm : X.mg x = some (.ref C)) (hb : Binds X.K fd ps ds) (hd : Vals dvs ds)
    (ha : PA X (e :: es) t) (hdb : (x == ("__debug__" : Str)) = false := by decide) (he : starEach (e :: es) X.env = (false, eval e X.env) :: starEach es X.env := by rfl) (hpl : (backTo pos (starEach es X.env)).any (·.1) = false := by rfl) :
    PE X (.Call (.Name x p) (e :: es) [] pos) (tMake C sp dvs E0 t) := by
  refine ⟨fun pins s σ H Q I h => ?_⟩
  refine wpAny_Call_Name_kw (ld_glob I hg hm ?_ hdb)
  refine PySem.W.callWith_K (h₀ := X.base) I.ok.mod.kin M.kp (thn (ha.run pos pins s σ H _ I h) fun us s1 hh => ?_) he hpl
  obtain ⟨vs, H1, I1, r, q⟩ := hh
  refine ⟨I1.kIn, ?_⟩
  have w1 := q (s1.heap.objs.size + 1) s1.heap.objs.size (I1.hok.fresh (Nat.le_succ _)) (I1.hok.fresh (Nat.le_refl _)) (Nat.ne_of_lt (Nat.lt_succ_self _))
  have I2 := Inv.made (C := C) I1
  have r2 : Vals (V.ref (s1.heap.objs.size + 1) :: (vs ++ dvs)) (Value.ref (s1.heap.objs.size + 1) :: (us ++ ds)) := .cons rfl (r.append hd)
  have hl : (Value.ref (s1.heap.objs.size + 1) :: us ++ ds).length = ps.length := (r2.length.symm.trans (F.len _ _ _ _ w1))
  refine wpAny_call (make_map (f := f) I1.kIn M.makes M.init (beq_iff_eq.mp M.fn) (codeAny_mono (F.run _ X.stack _ _ ⟨Value.ref (s1.heap.objs.size + 1) :: us, []⟩ (Value.ref (s1.heap.objs.size + 1) :: (us ++ ds)) _ _ E0 (hr.make C us [])
    (I2.env0.make C us []) (hb _ (Value.ref (s1.heap.objs.size + 1) :: us) I2.kIn hl) r2 w1) fun r s' hq' => ?_))
  cases r with
  | error e => exact hq'.elim
  | ok fl =>
    cases fl with
    | ret u =>
      obtain ⟨v, H', I3, rv, ev, q3⟩ := I2.after hq'
      subst ev
      exact ⟨rv, ⟨V.ref (s1.heap.objs.size + 1), H', I3, rfl, q3⟩⟩
    | next => exact False.elim hq'
    | brk => exact False.elim hq'
    | cont => exact False.elim hq'
end
/-! ### d.get(t, e), d a written dict of texts that has not t -/
section
variable {X : Cx} {d : Addr} {ens : Array DictEntry} {n : Nat} {o e g : Expr} {to te tg : TE} {apos cpos : Pos}
def tKMiss (K : PySem.W.Frag) (d : Addr) (to te tg : TE) : TE := fun σ H Q => to σ H fun x H1 => x = .ref d ∧ te σ H1 fun y H2 => tg σ H2 fun z H3 => ∃ t, y = .str t ∧ PySem.W.nsIn K d t = some none ∧ Q z H3
theorem pe_kmiss (D : KDict X.K X.w d ens n) (ho : PE X o to) (he : PE X e te) (hg : PE X g tg) (m : M2 X o "get" apos e g cpos) : PE X (.Call (.Attribute o "get" apos) [e, g] [] cpos) (tKMiss X.K d to te tg) := by
  refine ⟨fun pins s σ H Q I h => ?_⟩
  refine wpAny_Call_method m.base m.few m.line PySem.F.plainAttrs_dict PySem.F.slot_dict_get PySem.F.type_dict_get (thn (ho.run pins s σ H _ I h) fun u s1 hh => ?_)
  obtain ⟨x, H1, I1, rx, rfl, q1⟩ := hh
  obtain rfl : u = Value.ref d := rx
  refine ⟨kd_type D I1, fun b eb => ?_, ?_⟩
  · cases eb
    exact ⟨_, I1.kIn _ _ D.at_, rfl⟩
  rw [m.trees]
  refine Calls.callWith_builtin rfl (Calls.evalArgs_plain (Calls.spliced_cons (thn (he.run pins s1 σ H1 _ I1 q1) fun iv s2 hh2 => ?_)))
  obtain ⟨y, H2, I2, ry, q2⟩ := hh2
  refine Calls.spliced_cons (thn (hg.run pins s2 σ H2 _ I2 q2) fun fv s3 hh3 => Calls.spliced_nil ?_)
  obtain ⟨z, H3, I3, rz, t, rfl, e0, q3⟩ := hh3
  obtain ⟨tk, rfl⟩ := ry
  refine call_meetsIn PySem.F.slot_dict_get (kd_type D I3) PySem.F.entry_dict_get (PySem.F.args_dict_get_3 _ _ _) (meets_dict_get_default (strKind X.prog X.w) d (PySem.strKind_is X.prog X.w t tk) D.low fv) ⟨_, PySem.W.mapOf_K (prog := X.prog) I3.kIn D.at_ D.lit, ?_⟩
  rw [PySem.W.find_K D.at_ e0]
  exact ⟨z, H3, I3.tok _, rz, q3⟩
end
end DL

set_option Elab.async false
set_option linter.all false
set_option maxRecDepth 100000
set_option maxHeartbeats 2000000
/-! P98a: the text; is_line, read_line. -/
namespace K98
open PySem PySem.Spec PyProof.Rows L2 DL
def top (i : Nat) : Stmt := PySem.Challenge.pw_chieflayers_k98_lines_as_many_as_told.main.body.getD i (.Pass ⟨0, 0, 0, 0⟩)
def sub (s : Stmt) (j : Nat) : Stmt := match s with
  | .ClassDef _ _ _ b _ _ _ _ _ _ _ => b.getD j (.Pass ⟨0, 0, 0, 0⟩)
  | _ => .Pass ⟨0, 0, 0, 0⟩
abbrev P0 : Program := (PySem.W.OpenLaw.row PySem.Challenge.rw_chieflayers_k98_lines_as_many_as_told).prog
abbrev FnP (K : PySem.W.Frag) (x qual : Str) (st : Stmt) (f : Addr) (fd : FuncData) : Prop := FunD K x qual (defArgs st) (defBody st) (defScope st) [] [] f fd
/-- the lines of the law -/
def empL : List Str := ["", "# a", "  ", "# b"]
def allL : List Str := ["", "# a", "  ", "# b", "?"]
def sepS : Str := " "
def okLine (x : Str) : Bool := x.cps.toList.all (fun c => decide (32 ≤ c) && decide (c ≤ 126)) && (decide (x.length ≤ 100) && decide ((Txt.split x (Str.ofString " ")).length ≤ 10))
theorem ok_all : ∀ x ∈ allL, okLine x = true := by decide +kernel
/-- what the top has written -/
structure Tx (w : World) (K : PySem.W.Frag) (mg : Str → Option Value) (cNo iNo cMa cRe iRe cRp cCo : Addr) : Prop where
  b_len : mg "len" = none
  b_ord : mg "ord" = none
  b_isi : mg "isinstance" = none
  b_str : mg "str" = none
  b_iter : mg "iter" = none
  b_dict : mg "dict" = none
  b_range : mg "range" = none
  b_int : mg "int" = none
  b_abs : mg "abs" = none
  k_signs : ∃ t, mg "MOST_SIGNS" = some (.int 2000 t)
  shapes : ∃ (d : Addr) (es : Array DictEntry) (n : Nat), mg "SHAPES" = some (.ref d) ∧ KDict K w d es n ∧ PySem.W.nsIn K d "?" = some none
  making : ∃ a, mg "MAKING" = some (.ref a) ∧ ∀ H : Hp, SqT K H a [.str "let", .str "direct", .str "quotient"]
  eN : PySem.ErrX.ErrTxt P0 K mg "NoText" "NoText.__init__" "at" cNo iNo
  eR : PySem.ErrX.ErrTxt P0 K mg "Refused" "Refused.__init__" "reason" cRe iRe
  gMa : mg "Malformed" = some (.ref cMa)
  nm : PySem.W.exmOne K (.ref cNo) (.ref cMa) = some false
  nr : PySem.W.exmOne K (.ref cNo) (.ref cRe) = some false
  gRp : mg "Reply" = some (.ref cRp)
  gCo : mg "Console" = some (.ref cCo)
  clRp : Cls K cRp
  rKind : NoAttr K cRp "kind"
  rText : NoAttr K cRp "text"
  rData : NoAttr K cRp "data"
  clCo : Cls K cCo
  cMost : NoAttr K cCo "_most"
  cNames : NoAttr K cCo "_names"
  cEnt : NoAttr K cCo "_entries"
section
variable {w : World} {K : PySem.W.Frag} {mg : Str → Option Value} {base : Heap} {cNo iNo cMa cRe iRe cRp cCo : Addr} {f : Addr} {fd : FuncData}
/-! ### is_line -/
def spIL : Sp := fun vs H Q _ => ∃ x : Str, vs = [.str x] ∧ okLine x = true ∧ Q (.bl true) H
theorem scIL : FnScope ["value", "sign"] ["value"] (defScope (top 138)) := ⟨rfl, rfl, rfl, by decide +kernel, rfl, by decide +kernel, by decide +kernel⟩
theorem sign_at {x : Str} {i : Nat} {c : Nat} (h : okLine x = true) (e : x.cps[i]? = some c) : 32 ≤ c ∧ c ≤ 126 := by
  unfold okLine at h
  simp only [Bool.and_eq_true, List.all_eq_true, decide_eq_true_eq] at h
  exact h.1 c (by
    have : c ∈ x.cps := Array.mem_of_getElem? e
    simpa using this)
theorem ok_len {x : Str} (h : okLine x = true) : x.length ≤ 100 := by
  unfold okLine at h
  simp only [Bool.and_eq_true, decide_eq_true_eq] at h
  exact h.2.1
theorem ok_split {x : Str} (h : okLine x = true) : (Txt.split x sepS).length ≤ 10 := by
  unfold okLine at h
  simp only [Bool.and_eq_true, decide_eq_true_eq] at h
  exact h.2.2
theorem for_str {x : Str} {g : TG} {tb : TS} {D : Ends} {σ : L2.St} {H : Hp} (Pv : Nat → L2.St → Hp → Prop) (h0 : Pv 0 σ H)
    (hs : ∀ i c σ H, x.cps[i]? = some c → Pv i σ H → g (.str ⟨#[c]⟩) σ H fun σ2 H2 => tb { D with nx := Pv (i + 1), ct := Pv (i + 1), bk := D.nx } σ2 H2) (hd : ∀ σ H, Pv x.cps.size σ H → D.nx σ H) :
    ∃ W : Nat → Nat → L2.St → Hp → Prop, (∃ m, W 0 m σ H) ∧ ∀ i m σ H, W i m σ H →
      ((Its x).stop i H ∧ D.nx σ H) ∨ ((Its x).go i H ∧ ∃ N : L2.St → Hp → Prop, (∀ σ' H', N σ' H' → ∃ m', m' < m ∧ W (i + 1) m' σ' H') ∧ ∀ y H', (Its x).yld i H y H' → g y σ H' fun σ2 H2 => tb { D with nx := N, ct := N, bk := D.nx } σ2 H2) := by
  refine ⟨fun i m σ H => m = x.cps.size - i ∧ i ≤ x.cps.size ∧ Pv i σ H, ⟨x.cps.size, by simp, Nat.zero_le _, h0⟩, ?_⟩
  rintro i m σ H ⟨rfl, hi, p⟩
  by_cases hlt : i < x.cps.size
  · refine .inr ⟨hlt, Pv (i + 1), fun σ' H' p' => ⟨x.cps.size - (i + 1), by omega, rfl, hlt, p'⟩, fun y H' q => ?_⟩
    obtain ⟨rfl, c, e, rfl⟩ := q
    exact hs i c σ H' e p
  · have e : i = x.cps.size := by omega
    subst e
    exact .inl ⟨Nat.le_refl _, hd σ H p⟩
theorem ok_il (T : Tx w K mg cNo iNo cMa cRe iRe cRp cCo) (F : FnP K "is_line" "is_line" (top 138) f fd) : FnOk P0 w K mg base CX0 1 f fd ["value"] spIL := by
  refine F.ok scIL (fun vs H Q E h => ?_) (fun cdv A outer s H vs Q E hr h => ?_)
  · obtain ⟨x, rfl, _⟩ := h
    rfl
  · obtain ⟨x, rfl, hx, hQ⟩ := h
    obtain ⟨tS, gS⟩ := T.k_signs
    refine ⟨_, PSs.nox (pss_cons (ps_if (PW.pt (pw_or (pt_not (pt_val (pe_callB call_isi (by rfl) T.b_isi (by decide +kernel) (pa_cons (pv 0) (pa_cons (pe_bltn (v := .ty "str") (by rfl) T.b_str (by decide +kernel) rfl) pa_nil)))))
        (pw_or1 (pt_cmpR op_gt (pe_callB call_len_str (by rfl) T.b_len (by decide +kernel) (pa_cons (pv 0) pa_nil)) (pe_glob (v := .int 2000) rfl gS ⟨_, rfl⟩) (nomark _))))) (pss_one (ps_ret pe_bl)) pss_nil)
      (pss_cons (ps_for PassesOwn.never rfl (pi_str (pv 0)) (pg_name (i := 1) scIL.nd rfl (Or.inl rfl))
        (pss_one (ps_if (PW.pt (pw_or (pt_cmpR op_lt (pe_callB call_ord (by rfl) T.b_ord (by decide +kernel) (pa_cons (pv 1) pa_nil)) pe_int (nomark _))
          (pw_or1 (pt_cmpR op_gt (pe_callB call_ord (by rfl) T.b_ord (by decide +kernel) (pa_cons (pv 1) pa_nil)) pe_int (nomark _))))) (pss_one (ps_ret pe_bl)) pss_nil)))
      (pss_one (ps_ret pe_bl)))), ?_⟩
    have hl : x.length ≤ 2000 := by
      have := ok_len hx
      omega
    refine ⟨_, rfl, _, _, .type "str", .type "str", true, rfl, .ty _, .base (.str _), kit_ty (by decide +kernel), true, rfl, ?_⟩
    refine ⟨_, rfl, x, rfl, (by show x.length ≤ 16777216; omega), _, _, rfl, rfl, _, rfl, ?_⟩
    rw [decide_eq_false (by omega)]
    refine iteF ?_
    refine ⟨_, rfl, x, rfl, for_str (x := x) (fun i σ H' => ∃ v, σ = [some (.str x), v] ∧ H' = H) ⟨none, rfl, rfl⟩ ?_ ?_⟩
    · rintro i c σ H' hc ⟨v, rfl, rfl⟩
      obtain ⟨c1, c2⟩ := sign_at hx hc
      refine ⟨_, rfl, _, rfl, rfl, _, _, rfl, rfl, _, rfl, ?_⟩
      have e : ((((⟨#[c]⟩ : Str).cps.getD 0 0 : Nat)) : Int) = (c : Int) := rfl
      show (if decide (((((⟨#[c]⟩ : Str).cps.getD 0 0 : Nat)) : Int) < 32) = true then _ else _)
      rw [decide_eq_false (by rw [e]; omega)]
      refine iteF ?_
      refine ⟨_, rfl, _, rfl, rfl, _, _, rfl, rfl, _, rfl, ?_⟩
      show (if decide ((126 : Int) < ((((⟨#[c]⟩ : Str).cps.getD 0 0 : Nat)) : Int)) = true then _ else _)
      rw [decide_eq_false (by rw [e]; omega)]
      refine iteF ?_
      exact ⟨_, rfl, rfl⟩
    · rintro σ H' ⟨v, rfl, rfl⟩
      exact hQ
/-! ### read_line -/
/-- its words -/
def toks (x : Str) : List Str := (Txt.split x sepS).filter fun t => !decide (t = Str.ofString "")
def isEmp (x : Str) : Bool := decide ((toks x).length = 0) || Txt.startswith x (Str.ofString "#")
theorem emp_yes : ∀ x ∈ empL, isEmp x = true := by decide +kernel
theorem emp_no : isEmp (Str.ofString "?") = false ∧ toks (Str.ofString "?") = [Str.ofString "?"] := by decide +kernel
def spRL (cNo : Addr) : Sp := fun vs H Q E => ∃ x : Str, vs = [.str x] ∧ okLine x = true ∧
  ((isEmp x = true ∧ ∀ (H' : Hp) (p : Addr), Same H H' → H p = none → H' p = some (.tup [.str "empty"]) → Q (.ref p) H') ∨
  (x = "?" ∧ ∀ (H' : Hp) (d : Addr), Same H H' → H d = none → H' d = some (.xd [("at", .int 0)]) → E (.ref cNo) (some d) H'))
theorem scRL : FnScope ["line", "tokens", "token", "name", "shape", "found", "kind"] ["line"] (defScope (top 144)) := ⟨rfl, rfl, rfl, by decide +kernel, rfl, by decide +kernel, by decide +kernel⟩
theorem ok_rl {fL : Addr} {fdL : FuncData} (T : Tx w K mg cNo iNo cMa cRe iRe cRp cCo) (F : FnP K "read_line" "read_line" (top 144) f fd) (FL : FnP K "is_line" "is_line" (top 138) fL fdL) (gL : mg "is_line" = some (.ref fL)) : FnOk P0 w K mg base (L2.CX P0 w) 2 f fd ["line"] (spRL cNo) := by
  have GL : FnOk P0 w K mg base CX0 1 fL fdL ["value"] spIL := ok_il T FL
  have bL : Binds K fdL ["value"] [] := FL.bindsN fun _ _ _ _ _ _ us hl => match us, hl with | [_], _ => rfl
  obtain ⟨dS, eS, nS, gS, D, miss⟩ := T.shapes
  refine F.ok scRL (fun vs H Q E h => ?_) (fun cdv A outer s H vs Q E hr h => ?_)
  · obtain ⟨x, rfl, _⟩ := h
    rfl
  · obtain ⟨x, rfl, hx, hc⟩ := h
    have hl := ok_len hx
    have hs10 := ok_split hx
    have hu := hu_of hr
    refine ⟨_, pss_cons (ps_if (pt_not (pt_val (pe_call GL hr rfl gL FL.kp bL .nil pass0 (pa_cons (pv 0) pa_nil)))) (pss_one (ps_raise rfl (takes_of rfl rfl rfl rfl) (pmk_err T.eN hr (pa_cons pe_int pa_nil) rfl (by decide)))) pss_nil)
      (pss_cons (ps_setLc (i := 1) (own := [("token", 2)]) (g := gName 2) (by rfl) scRL.nd rfl rfl (sw_true rfl rfl rfl (by decide +kernel)) (pi_list (pe_split (pv 0) pe_str)) (blkOk_by (own := [("token", 2)]) (N := ["line", "tokens", "token", "name", "shape", "found", "kind"]) (sc := defScope (top 144)) (by decide +kernel))
        (fun _ _ _ _ _ => pg_name (i := 2) scRL.nd rfl (Or.inl rfl)) (fun _ _ _ _ _ => pts_one (pt_cmpR op_ne (pv 2) pe_str (nomark _))) (fun _ _ _ _ _ => pv 2))
      (pss_cons (ps_if (PW.pt (pw_or (pt_cmpR op_eq (pe_callB call_len (by rfl) T.b_len (by decide +kernel) (pa_cons (pv 1) pa_nil)) pe_int (nomark _)) (pw_or1 (pt_val (pe_m1 PySem.F.slot_str_startswith PySem.F.type_str_startswith mt_startswith (pv 0) pe_str)))))
        (pss_one (ps_ret (pe_tup (pa_cons pe_str pa_nil)))) pss_nil)
      (pss_cons (ps_if (pt_cmpR op_eq (pe_ix ix_list (pv 1) pe_int (fun _ _ => rfl)) pe_str (nomark _)) pss_never pss_nil)
      (pss_cons (ps_set (i := 4) scRL.nd rfl (Or.inl rfl) (pe_kmiss D (pe_glob (v := .ref dS) rfl gS rfl) (pe_ix ix_list (pv 1) pe_int (fun _ _ => rfl)) pe_str ⟨rfl, rfl, rfl, rfl⟩))
      (pss_cons (ps_if (PW.pt (pw_or (pt_cmpR op_eq (pv 4) pe_str (nomark _)) (pw_or1 (PT.mk (t := fun _ _ _ => False) fun _ _ _ _ _ _ h => False.elim h)))) (pss_one (ps_raise rfl (takes_of rfl rfl rfl rfl) (pmk_err T.eN hr (pa_cons pe_int pa_nil) rfl (by decide)))) pss_nil)
      pss_never))))), ?_⟩
    refine ⟨_, rfl, x, rfl, hx, true, rfl, iteF ?_⟩
    refine ⟨_, rfl, ⟨_, rfl⟩, x, sepS, rfl, rfl, by decide +kernel, (by show x.length + 2 ≤ 16777216; omega), fun p hp => ?_⟩
    obtain ⟨ws, hws⟩ : ∃ ws, ws = Txt.split x sepS := ⟨_, rfl⟩
    have ht : toks x = ws.filter fun t => !decide (t = Str.ofString "") := by rw [hws]; rfl
    rw [← hws]
    rw [← hws] at hs10
    refine ⟨p, rfl, ⟨_, SqL.of upd_same⟩, fun D' hD => ?_⟩
    have hpD : p ≠ D' := fun z => by rw [← z, upd_same] at hD; cases hD
    have hD0 : H D' = none := by rwa [upd_ne (Ne.symm hpD)] at hD
    refine lc_list (K := K) (a := p) (xs := ws.map V.str) (fun i H' => H' = upd (upd H p (.lst (ws.map V.str))) D' (.lst (((ws.take i).filter fun t => !decide (t = Str.ofString "")).map V.str))) rfl (fun i H' _ e => by
      rw [e]
      exact SqL.of (by rw [upd_ne hpD, upd_same])) ?_ ?_
    · rintro i v H' hi rfl
      obtain ⟨t, ht1, rfl⟩ : ∃ t, ws[i]? = some t ∧ v = V.str t := by
        rw [List.getElem?_map] at hi
        obtain ⟨t, h1, h2⟩ := Option.map_eq_some_iff.mp hi
        exact ⟨t, h1, h2.symm⟩
      have hlt : i < ws.length := (List.getElem?_eq_some_iff.mp ht1).1
      have etk : ws.take (i + 1) = ws.take i ++ [t] := by
        rw [List.take_add_one, ht1]
        rfl
      refine ⟨rfl, _, rfl, rfl, _, rfl, ?_⟩
      have ed : decide (V.str t = V.str (Str.ofString "")) = decide (t = Str.ofString "") := by
        rw [decide_eq_decide]
        exact ⟨fun z => by cases z; rfl, fun z => by rw [z]⟩
      rw [etk, List.filter_append, ed]
      cases hb : decide (t = Str.ofString "") with
      | true =>
        refine iteF ?_
        rw [List.filter_cons_of_neg (by rw [hb]; decide), List.filter_nil, List.append_nil]
      | false =>
        refine iteT ⟨_, rfl, _, upd_same, ?_, ?_⟩
        · rw [List.length_map]
          have h1 := List.length_filter_le (fun t => !decide (t = Str.ofString "")) (ws.take i)
          have h2 := List.length_take_le i ws
          show _ < 16777216
          omega
        · rw [List.filter_cons_of_pos (by rw [hb]; rfl), List.filter_nil, List.map_append, upd_upd]
          rfl
    · rintro H' rfl
      rw [List.length_map, List.take_length, ← ht]
      obtain ⟨H2, hH2⟩ : ∃ H2, H2 = upd (upd H p (.lst (ws.map V.str))) D' (.lst ((toks x).map V.str)) := ⟨_, rfl⟩
      rw [← hH2]
      have h2D : H2 D' = some (.lst ((toks x).map V.str)) := by rw [hH2, upd_same]
      have s2 : Same H H2 := fun b o e => by
        rw [hH2, upd_ne (ne_of_none e hD0), upd_ne (ne_of_none e hp)]
        exact e
      refine ⟨_, rfl, _, ((toks x).map V.str).length, rfl, .inl ⟨_, SqL.of h2D, rfl⟩, rfl, _, rfl, ?_⟩
      rw [List.length_map]
      rcases hc with ⟨he, hQ⟩ | ⟨rfl, hE⟩
      · unfold isEmp at he
        by_cases hz : (toks x).length = 0
        · have e0 : decide (V.int ((toks x).length : Int) = V.int 0) = true := decide_eq_true (by rw [hz]; rfl)
          rw [e0]
          refine iteT (iteT ⟨by show 1 ≤ 16777216; decide, fun q hq => ?_⟩)
          refine hQ _ q (fun b o e => ?_) ?_ upd_same
          · rw [upd_ne (ne_of_none (s2 b o e) hq)]
            exact s2 b o e
          · cases e : H q with
            | none => rfl
            | some o => rw [s2 q o e] at hq; cases hq
        · have e0 : decide (V.int ((toks x).length : Int) = V.int 0) = false := decide_eq_false (fun z => by
            have : ((toks x).length : Int) = 0 := by injection z
            omega)
          rw [e0]
          have hst : Txt.startswith x (Str.ofString "#") = true := by simpa [hz] using he
          refine iteF ⟨_, rfl, ⟨_, rfl⟩, x, _, rfl, rfl, Txt.startswith x (Str.ofString "#"), rfl, ?_⟩
          rw [hst]
          refine iteT ⟨by show 1 ≤ 16777216; decide, fun q hq => ?_⟩
          refine hQ _ q (fun b o e => ?_) ?_ upd_same
          · rw [upd_ne (ne_of_none (s2 b o e) hq)]
            exact s2 b o e
          · cases e : H q with
            | none => rfl
            | some o => rw [s2 q o e] at hq; cases hq
      · obtain ⟨n1, n2⟩ := emp_no
        rw [n2] at h2D ⊢
        have n3 : Txt.startswith (Str.ofString "?") (Str.ofString "#") = false := by decide +kernel
        refine iteF ⟨_, rfl, ⟨_, rfl⟩, _, _, rfl, rfl, Txt.startswith (Str.ofString "?") (Str.ofString "#"), rfl, ?_⟩
        rw [n3]
        refine iteF ?_
        refine ⟨_, rfl, D', _, _, _, rfl, rfl, SqL.of h2D, rfl, rfl, _, rfl, ?_⟩
        rw [decide_eq_false (by decide)]
        refine iteF ?_
        refine ⟨rfl, _, rfl, D', _, _, _, rfl, rfl, SqL.of h2D, rfl, _, rfl, miss, ?_⟩
        refine ⟨_, rfl, rfl, _, rfl, ?_⟩
        refine iteT (iteT ⟨_, rfl, fun d hd => ?_⟩)
        refine hE _ d (fun b o e => ?_) ?_ upd_same
        · rw [upd_ne (ne_of_none (s2 b o e) hd)]
          exact s2 b o e
        · cases e : H d with
          | none => rfl
          | some o => rw [s2 d o e] at hd; cases hd
end
end K98

set_option Elab.async false
set_option linter.all false
set_option maxRecDepth 100000
set_option maxHeartbeats 2000000
/-! P98b: Reply, carried_out, reply_to, defined. -/
namespace K98
open PySem PySem.Spec PyProof.Rows L2 DL
section
variable {w : World} {K : PySem.W.Frag} {mg : Str → Option Value} {base : Heap} {cNo iNo cMa cRe iRe cRp cCo : Addr} {f : Addr} {fd : FuncData}
/-! ### Reply.__init__ -/
abbrev sRp : Stmt := sub (top 149) 0
abbrev FnR (K : PySem.W.Frag) (eT : Addr) (f : Addr) (fd : FuncData) : Prop := FunD K "__init__" "Reply.__init__" (defArgs sRp) (defBody sRp) (defScope sRp) [.str "", .ref eT] [] f fd
def spRp (cRp : Addr) : Sp := fun vs H Q _ => ∃ p dx a b c, vs = [V.ref p, a, b, c] ∧ H p = some (.ins cRp dx []) ∧ ∀ H' : Hp, (∀ q o, q ≠ p → H q = some o → H' q = some o) → Q .non H'
theorem scRp : FnScope ["self", "kind", "text", "data"] ["self", "kind", "text", "data"] (defScope sRp) := ⟨rfl, rfl, rfl, by decide +kernel, rfl, by decide +kernel, by decide +kernel⟩
theorem ok_rp {eT : Addr} (T : Tx w K mg cNo iNo cMa cRe iRe cRp cCo) (F : FnR K eT f fd) : FnA P0 w K mg base 1 f fd ["self", "kind", "text", "data"] (spRp cRp) := by
  refine fnA_of F scRp (fun vs H Q E h => ?_) (fun cdv A outer s H vs Q E hr h => ?_)
  · obtain ⟨p, dx, a, b, c, rfl, _⟩ := h
    rfl
  · obtain ⟨p, dx, a, b, c, rfl, hp, k⟩ := h
    refine ⟨_, pss_cons (ps_fld (pv 0) (pv 1) rfl) (pss_cons (ps_fld (pv 0) (pv 2) rfl) (pss_one (ps_fld (pv 0) (pv 3) rfl))), ?_⟩
    refine ⟨_, rfl, _, rfl, p, cRp, dx, _, rfl, hp, T.clRp, T.rKind, (by show 0 < 1000; decide), ?_⟩
    refine ⟨_, rfl, _, rfl, p, cRp, dx, _, rfl, upd_same, T.clRp, T.rText, (by show 1 < 1000; decide), ?_⟩
    refine ⟨_, rfl, _, rfl, p, cRp, dx, _, rfl, upd_same, T.clRp, T.rData, (by show 2 < 1000; decide), ?_⟩
    refine k _ fun q o hq e => ?_
    rw [upd_ne hq, upd_ne hq, upd_ne hq]
    exact e
/-- a new Reply -/
theorem rp_new {H : Hp} {Q : VK} {a b c : V} (h : ∀ (p : Addr) (H' : Hp), Same H H' → Q (.ref p) H') : ∀ x dx : Addr, H x = none → H dx = none → dx ≠ x → spRp cRp (.ref x :: [a, b, c]) (upd (upd H dx (.own x)) x (.ins cRp dx [])) (fun v H2 => v = .non ∧ Q (.ref x) H2) E0 := fun x dx hx hdx ne =>
  ⟨x, dx, a, b, c, rfl, upd_same, fun H' k => ⟨rfl, h x H' fun q o e => k q o (ne_of_none e hx) (by rw [upd_ne (ne_of_none e hx), upd_ne (ne_of_none e hdx)]; exact e)⟩⟩
theorem bind_rp2 {eT : Addr} (F : FnR K eT f fd) : ∃ ds, Vals [V.str "", V.ref eT] ds ∧ Binds K fd ["self", "kind", "text", "data"] ds :=
  F.binds1 2 0 (by simp) rfl fun T kV doc pm an cdv ct us its h1 h2 => match us, its, h1, h2 with | [_, _], [_, _], _, _ => ⟨_, rfl, rfl⟩
theorem bind_rp3 {eT : Addr} (F : FnR K eT f fd) : ∃ ds, Vals [V.ref eT] ds ∧ Binds K fd ["self", "kind", "text", "data"] ds :=
  F.binds1 3 1 (by simp) rfl fun T kV doc pm an cdv ct us its h1 h2 => match us, its, h1, h2 with | [_, _, _], [_, _], _, _ => ⟨_, rfl, rfl⟩
/-! ### carried_out -/
def spCO : Sp := fun vs H Q _ => ∃ (nm : V) (c : Addr), vs = [nm, .ref c] ∧ H c = some (.tup [.str "empty"]) ∧ ∀ (p : Addr) (H' : Hp), Same H H' → Q (.ref p) H'
theorem scCO : FnScope ["names", "command", "word", "paper", "first", "second", "group", "x", "y", "row"] ["names", "command"] (defScope (top 160)) := ⟨rfl, rfl, rfl, by decide +kernel, rfl, by decide +kernel, by decide +kernel⟩
theorem ok_co {fR eT : Addr} {fdR : FuncData} (T : Tx w K mg cNo iNo cMa cRe iRe cRp cCo) (F : FnP K "carried_out" "carried_out" (top 160) f fd) (FR : FnR K eT fR fdR) (M : Mk K cRp fR) : FnOk P0 w K mg base CX0 3 f fd ["names", "command"] spCO := by
  obtain ⟨ds, hd, hb⟩ := bind_rp2 FR
  refine F.ok scCO (fun vs H Q E h => ?_) (fun cdv A outer s H vs Q E hr h => ?_)
  · obtain ⟨nm, c, rfl, _⟩ := h
    rfl
  · obtain ⟨nm, c, rfl, hc, hQ⟩ := h
    refine ⟨_, PSs.nox (pss_cons (ps_set (i := 2) scCO.nd rfl (Or.inl rfl) (pe_ix ix_tup (pv 1) pe_int (fun _ _ => rfl)))
      (pss_cons (ps_if (pt_cmpR op_eq (pv 2) pe_str (nomark _)) (pss_one (ps_ret (pe_makeA M (ok_rp T FR) (RoomA.of hr) rfl T.gRp hb hd (pa_cons pe_str pa_nil)))) pss_nil)
      pss_never)), ?_⟩
    refine ⟨_, rfl, c, _, _, _, rfl, rfl, SqT.of hc, rfl, ?_⟩
    refine ⟨_, rfl, rfl, _, rfl, iteT ?_⟩
    exact rp_new hQ
/-! ### reply_to -/
def lineOk (x : Str) : Prop := okLine x = true ∧ (isEmp x = true ∨ x = "?")
theorem line_all : ∀ x ∈ allL, lineOk x := fun x hx => ⟨ok_all x hx, by
  simp only [allL, List.mem_cons, List.not_mem_nil, or_false] at hx
  rcases hx with rfl | rfl | rfl | rfl | rfl
  · exact .inl (by decide +kernel)
  · exact .inl (by decide +kernel)
  · exact .inl (by decide +kernel)
  · exact .inl (by decide +kernel)
  · exact .inr rfl⟩
def spRT : Sp := fun vs H Q _ => ∃ (nm : V) (x : Str), vs = [nm, .str x] ∧ lineOk x ∧ ∀ (p : Addr) (H' : Hp), Same H H' → Q (.ref p) H'
theorem scRT : FnScope ["names", "line", "fault"] ["names", "line"] (defScope (top 161)) := ⟨rfl, rfl, rfl, by decide +kernel, rfl, by decide +kernel, by decide +kernel⟩
theorem ok_rt {fR eT fC fL fI : Addr} {fdR fdC fdL fdI : FuncData} (T : Tx w K mg cNo iNo cMa cRe iRe cRp cCo) (F : FnP K "reply_to" "reply_to" (top 161) f fd) (FR : FnR K eT fR fdR) (M : Mk K cRp fR)
    (FC : FnP K "carried_out" "carried_out" (top 160) fC fdC) (gC : mg "carried_out" = some (.ref fC)) (FL : FnP K "read_line" "read_line" (top 144) fL fdL) (gL : mg "read_line" = some (.ref fL)) (FI : FnP K "is_line" "is_line" (top 138) fI fdI) (gI : mg "is_line" = some (.ref fI)) :
    FnOk P0 w K mg base CX0 4 f fd ["names", "line"] spRT := by
  obtain ⟨ds, hd, hb⟩ := bind_rp3 FR
  have GC : FnOk P0 w K mg base CX0 3 fC fdC ["names", "command"] spCO := ok_co T FC FR M
  have bC : Binds K fdC ["names", "command"] [] := FC.bindsN fun _ _ _ _ _ _ us hl => match us, hl with | [_, _], _ => rfl
  have GL : FnOk P0 w K mg base (L2.CX P0 w) 2 fL fdL ["line"] (spRL cNo) := ok_rl T FL FI gI
  have bL : Binds K fdL ["line"] [] := FL.bindsN fun _ _ _ _ _ _ us hl => match us, hl with | [_], _ => rfl
  refine F.ok scRT (fun vs H Q E h => ?_) (fun cdv A outer s H vs Q E hr h => ?_)
  · obtain ⟨nm, x, rfl, _⟩ := h
    rfl
  · obtain ⟨nm, x, rfl, ⟨hx, hc⟩, hQ⟩ := h
    have hr2 : Room 2 _ := hr.mono (by decide)
    refine ⟨_, PSs.nox (pss_one (ps_try1 (M := fun cls => cls = .ref cNo) (tb := fun W => tRet (tCall spCO [] E0 (tCons (tVar 0) (tCons (tCallS (spRL cNo) (WE W) (tCons (tVar 1) tNil)) tNil)))) (ts := fun _ _ _ => tRet (tMake cRp (spRp cRp) [.ref eT] E0 (tCons (tC (.str "error")) (tCons (tC (.str "text")) tNil)))) rfl rfl
      (fun cls hcls => by subst hcls; exact catch_name ⟨rfl, by decide, .inl T.eN.gC⟩ T.eN.te)
      (fun W pn xe tk _ => pss_one (ps_ret (pe_call GC hr rfl gC FC.kp bC .nil pass0 (by exact (pa_cons (pv 0) (pa_cons (pe_callS GL hr2 rfl gL FL.kp bL (fun σ => passAt tk σ) (by exact (pa_cons (pv 1) pa_nil))) pa_nil))))))
      (fun a oe cls d pn _ _ => pss_one (ps_ret (pe_makeA M (ok_rp T FR) ⟨hr2.dp, hr2.un⟩ rfl T.gRp hb hd (by exact (pa_cons pe_str (pa_cons pe_str pa_nil)))))))), ?_⟩
    refine ⟨_, rfl, _, rfl, x, rfl, hx, ?_⟩
    rcases hc with he | rfl
    · exact .inl ⟨he, fun H' p s hn hp => ⟨nm, p, rfl, hp, fun q H2 s2 => hQ q H2 (s.trans s2)⟩⟩
    · refine .inr ⟨rfl, fun H' d s hn hd' => ⟨rfl, fun a ha => ?_⟩⟩
      exact rp_new fun q H2 s2 => hQ q H2 (s.trans s2)
/-! ### defined -/
theorem any3 (T : Tx w K mg cNo iNo cMa cRe iRe cRp cCo) : PySem.W.exmAny K (.ref cNo) [.ref cNo, .ref cMa, .ref cRe] = some true := by
  have h1 : PySem.W.exmAny K (.ref cNo) [.ref cRe] = some false := by
    unfold PySem.W.exmAny
    rw [T.nr]
    rfl
  have h2 : PySem.W.exmAny K (.ref cNo) [.ref cMa, .ref cRe] = some false := by
    unfold PySem.W.exmAny
    rw [T.nm, h1]
    rfl
  unfold PySem.W.exmAny
  rw [T.eN.te, h2]
  rfl
def spDF : Sp := fun vs H Q _ => ∃ (nm : V) (x : Str), vs = [nm, .str x] ∧ lineOk x ∧ ∀ H' : Hp, Same H H' → Q .non H'
theorem scDF : FnScope ["names", "line", "command"] ["names", "line"] (defScope (top 162)) := ⟨rfl, rfl, rfl, by decide +kernel, rfl, by decide +kernel, by decide +kernel⟩
theorem ok_df {fL fI : Addr} {fdL fdI : FuncData} (T : Tx w K mg cNo iNo cMa cRe iRe cRp cCo) (F : FnP K "defined" "defined" (top 162) f fd)
    (FL : FnP K "read_line" "read_line" (top 144) fL fdL) (gL : mg "read_line" = some (.ref fL)) (FI : FnP K "is_line" "is_line" (top 138) fI fdI) (gI : mg "is_line" = some (.ref fI)) :
    FnOk P0 w K mg base CX0 3 f fd ["names", "line"] spDF := by
  have GL : FnOk P0 w K mg base (L2.CX P0 w) 2 fL fdL ["line"] (spRL cNo) := ok_rl T FL FI gI
  have bL : Binds K fdL ["line"] [] := FL.bindsN fun _ _ _ _ _ _ us hl => match us, hl with | [_], _ => rfl
  obtain ⟨aM, gM, hM⟩ := T.making
  refine F.ok scDF (fun vs H Q E h => ?_) (fun cdv A outer s H vs Q E hr h => ?_)
  · obtain ⟨nm, x, rfl, _⟩ := h
    rfl
  · obtain ⟨nm, x, rfl, ⟨hx, hc⟩, hQ⟩ := h
    refine ⟨_, PSs.nox (pss_one (ps_try1 (M := fun cls => cls = .ref cNo) (tb := fun W => tSeq (tAsg (tCallS (spRL cNo) (WE W) (tCons (tVar 1) tNil)) (gName 2)) (tSeq (tIfS (tTest (tOp (rIn K true) (tOp (rIxT K) (tVar 2) (tC (.int 0))) (tC (.ref aM)))) (tRet (tC .non)) tNext) tNever)) (ts := fun _ _ _ => tRet (tC .non)) rfl rfl
      (fun cls hcls => by
        subst hcls
        exact catch_tup3 T.eN.gC T.gMa T.eR.gC (any3 T))
      (fun W pn xe tk _ => pss_cons (ps_set (i := 2) scDF.nd rfl (Or.inl rfl) (pe_callS GL hr rfl gL FL.kp bL (fun σ => passAt tk σ) (by exact (pa_cons (pv 1) pa_nil))))
        (pss_cons (ps_if (pt_cmpR op_notIn_seq (pe_ix ix_tup (pv 2) pe_int (fun _ _ => rfl)) (pe_glob (v := .ref aM) rfl gM rfl) (by rfl)) (pss_one (ps_ret pe_non)) pss_nil) pss_never))
      (fun a oe cls d pn _ _ => pss_one (ps_ret pe_non)))), ?_⟩
    refine ⟨_, rfl, x, rfl, hx, ?_⟩
    rcases hc with he | rfl
    · refine .inl ⟨he, fun H' p s hn hp => ?_⟩
      refine ⟨_, rfl, p, _, _, _, rfl, rfl, SqT.of hp, rfl, aM, _, rfl, .inr (hM H'), rfl, rfl, _, rfl, ?_⟩
      rw [show (if true = true then !L2.inV (V.str "empty") [.str "let", .str "direct", .str "quotient"] else L2.inV (V.str "empty") [.str "let", .str "direct", .str "quotient"]) = true by decide +kernel]
      exact iteT (hQ H' s)
    · refine .inr ⟨rfl, fun H' d s hn hd' => ⟨rfl, fun a ha => hQ H' s⟩⟩
end
end K98

set_option Elab.async false
set_option linter.all false
set_option maxRecDepth 100000
set_option maxHeartbeats 2000000
/-! P98c: the console. -/
namespace K98
open PySem PySem.Spec PyProof.Rows L2 ItX DL
abbrev sCI : Stmt := sub (top 164) 0
abbrev sCL : Stmt := sub (top 164) 1
abbrev sCT : Stmt := sub (top 164) 2
abbrev sCE : Stmt := sub (top 164) 3
abbrev sCN : Stmt := sub (top 164) 4
def flds (n e : Addr) : List (Str × V) := [("_most", .int 300), ("_names", .ref n), ("_entries", .ref e)]
theorem flds_put (n e : Addr) : putF "_entries" (.ref e) (putF "_names" (.ref n) (putF "_most" (.int 300) [])) = flds n e := by
  first
    | rfl
    | kernel_rfl
theorem flds_n (n e : Addr) : (flds n e).lookup ("_names" : Str) = some (V.ref n) := by kernel_rfl
theorem flds_e (n e : Addr) : (flds n e).lookup ("_entries" : Str) = some (V.ref e) := by kernel_rfl
theorem flds_m (n e : Addr) : (flds n e).lookup ("_most" : Str) = some (V.int 300) := by kernel_rfl
/-- a console: its dict of names is empty, its entries are es -/
structure ConAt (cCo : Addr) (H : Hp) (p n e : Addr) (es : List V) : Prop where
  ob : ∃ dx, H p = some (.ins cCo dx (flds n e))
  nm : H n = some (.dK [])
  en : H e = some (.lst es)
  rf : ∀ v ∈ es, ∃ q, v = V.ref q
theorem ConAt.mono {cCo : Addr} {H H' : Hp} {p n e : Addr} {es : List V} (h : ConAt cCo H p n e es) (s : ∀ q, (q = p ∨ q = n ∨ q = e) → ∀ o, H q = some o → H' q = some o) : ConAt cCo H' p n e es := by
  obtain ⟨⟨dx, h1⟩, h2, h3, h4⟩ := h
  exact ⟨⟨dx, s _ (.inl rfl) _ h1⟩, s _ (.inr (.inl rfl)) _ h2, s _ (.inr (.inr rfl)) _ h3, h4⟩
theorem ConAt.same {cCo : Addr} {H H' : Hp} {p n e : Addr} {es : List V} (h : ConAt cCo H p n e es) (s : Same H H') : ConAt cCo H' p n e es := h.mono fun q _ o z => s q o z
section
variable {w : World} {K : PySem.W.Frag} {mg : Str → Option Value} {base : Heap} {cNo iNo cMa cRe iRe cRp cCo : Addr} {f : Addr} {fd : FuncData}
/-! ### __init__ -/
abbrev FnI (K : PySem.W.Frag) (f : Addr) (fd : FuncData) : Prop := FunD K "__init__" "Console.__init__" (defArgs sCI) (defBody sCI) (defScope sCI) [] [("most", .int 300)] f fd
def spCI (cCo : Addr) : Sp := fun vs H Q _ => ∃ p dx, vs = [V.ref p, .int 300] ∧ H p = some (.ins cCo dx []) ∧ ∀ (n e : Addr) (H' : Hp), H n = none → H e = none → ConAt cCo H' p n e [] → (∀ q o, q ≠ p → H q = some o → H' q = some o) → Q .non H'
theorem scCI : FnScope ["self", "most"] ["self", "most"] (defScope sCI) := ⟨rfl, rfl, rfl, by decide +kernel, rfl, by decide +kernel, by decide +kernel⟩
theorem bind_ci (F : FnI K f fd) : ∃ ds, Vals [V.int 300] ds ∧ Binds K fd ["self", "most"] ds :=
  F.binds0 1 (by simp) rfl fun D doc pm an cdv ct us ks h1 h2 => match us, ks, h1, h2 with | [_], [_], _, _ => ⟨_, _, _, _, _, _, rfl, rfl, rfl⟩
theorem ok_ci (T : Tx w K mg cNo iNo cMa cRe iRe cRp cCo) (F : FnI K f fd) : FnOk P0 w K mg base CX0 1 f fd ["self", "most"] (spCI cCo) := by
  refine F.ok scCI (fun vs H Q E h => ?_) (fun cdv A outer s H vs Q E hr h => ?_)
  · obtain ⟨p, dx, rfl, _⟩ := h
    rfl
  · obtain ⟨p, dx, rfl, hp, k⟩ := h
    refine ⟨_, PSs.nox (pss_cons (ps_fld (pv 0) (pv 1) rfl) (pss_cons (ps_fld (pv 0) pe_dnewK rfl) (pss_one (ps_fld (pv 0) (pe_lst pa_nil) rfl)))), ?_⟩
    refine ⟨_, rfl, _, rfl, p, cCo, dx, _, rfl, hp, T.clCo, T.cMost, (by show 0 < 1000; decide), ?_⟩
    intro n hn
    have npn : p ≠ n := fun z => by rw [← z, upd_same] at hn; cases hn
    have hn0 : H n = none := by rwa [upd_ne (Ne.symm npn)] at hn
    refine ⟨_, rfl, p, cCo, dx, _, rfl, (by rw [upd_ne npn, upd_same]), T.clCo, T.cNames, (by show 1 < 1000; decide), ?_⟩
    refine ⟨by show 0 ≤ 16777216; decide, fun e he => ?_⟩
    have npe : p ≠ e := fun z => by rw [← z, upd_same] at he; cases he
    have nne : n ≠ e := fun z => by rw [← z, upd_ne (Ne.symm npn), upd_same] at he; cases he
    have he0 : H e = none := by rwa [upd_ne (Ne.symm npe), upd_ne (Ne.symm nne), upd_ne (Ne.symm npe)] at he
    refine ⟨_, rfl, p, cCo, dx, _, rfl, (by rw [upd_ne npe, upd_same]), T.clCo, T.cEnt, (by show 2 < 1000; decide), ?_⟩
    refine k n e _ hn0 he0 ⟨⟨dx, by rw [upd_same, flds_put]⟩, by rw [upd_ne (Ne.symm npn), upd_ne nne, upd_ne (Ne.symm npn), upd_same], by rw [upd_ne (Ne.symm npe), upd_same], fun v hv => by cases hv⟩ fun q o hq z => ?_
    rw [upd_ne hq, upd_ne (ne_of_none z he0), upd_ne hq, upd_ne (ne_of_none z hn0), upd_ne hq]
    exact z
/-! ### __len__, __iter__, names -/
def spCL (cCo : Addr) : Sp := fun vs H Q _ => ∃ p n e es, vs = [V.ref p] ∧ ConAt cCo H p n e es ∧ Q (.int es.length) H
theorem sc1 : FnScope ["self"] ["self"] (defScope sCL) := ⟨rfl, rfl, rfl, by decide +kernel, rfl, by decide +kernel, by decide +kernel⟩
theorem ok_cl (T : Tx w K mg cNo iNo cMa cRe iRe cRp cCo) (F : FnP K "__len__" "Console.__len__" sCL f fd) : FnOk P0 w K mg base CX0 1 f fd ["self"] (spCL cCo) := by
  refine F.ok sc1 (fun vs H Q E h => ?_) (fun cdv A outer s H vs Q E hr h => ?_)
  · obtain ⟨p, n, e, es, rfl, _⟩ := h
    rfl
  · obtain ⟨p, n, e, es, rfl, ⟨⟨dx, h1⟩, h2, h3, h4⟩, hQ⟩ := h
    refine ⟨_, PSs.nox (pss_one (ps_ret (pe_callB call_len (by rfl) T.b_len (by decide +kernel) (pa_cons (pe_fld (pv 0) rfl) pa_nil)))), ?_⟩
    exact ⟨_, rfl, p, cCo, dx, _, _, rfl, h1, T.clCo, T.cEnt, flds_e n e, _, es.length, rfl, .inl ⟨_, SqL.of h3, rfl⟩, hQ⟩
def spCT (cCo : Addr) : Sp := fun vs H Q _ => ∃ p n e es, vs = [V.ref p] ∧ ConAt cCo H p n e es ∧ ∀ it : Addr, (∀ b u, H b = some u → b < it) → H it = none → Q (.ref it) (upd H it (ItO e it 0))
theorem sc2 : FnScope ["self"] ["self"] (defScope sCT) := ⟨rfl, rfl, rfl, by decide +kernel, rfl, by decide +kernel, by decide +kernel⟩
theorem ok_ct (T : Tx w K mg cNo iNo cMa cRe iRe cRp cCo) (F : FnP K "__iter__" "Console.__iter__" sCT f fd) : FnOk P0 w K mg base CX0 1 f fd ["self"] (spCT cCo) := by
  refine F.ok sc2 (fun vs H Q E h => ?_) (fun cdv A outer s H vs Q E hr h => ?_)
  · obtain ⟨p, n, e, es, rfl, _⟩ := h
    rfl
  · obtain ⟨p, n, e, es, rfl, ⟨⟨dx, h1⟩, h2, h3, h4⟩, hQ⟩ := h
    refine ⟨_, PSs.nox (pss_one (ps_ret (pe_callB call_iterT (by rfl) T.b_iter (by decide +kernel) (pa_cons (pe_fld (pv 0) rfl) pa_nil)))), ?_⟩
    exact ⟨_, rfl, p, cCo, dx, _, _, rfl, h1, T.clCo, T.cEnt, flds_e n e, e, es, rfl, SqL.of h3, hQ⟩
def spCN (cCo : Addr) : Sp := fun vs H Q _ => ∃ p n e es, vs = [V.ref p] ∧ ConAt cCo H p n e es ∧ ∀ q : Addr, H q = none → Q (.ref q) (upd H q (.dK []))
theorem sc3 : FnScope ["self"] ["self"] (defScope sCN) := ⟨rfl, rfl, rfl, by decide +kernel, rfl, by decide +kernel, by decide +kernel⟩
theorem ok_cn (T : Tx w K mg cNo iNo cMa cRe iRe cRp cCo) (F : FnP K "names" "Console.names" sCN f fd) : FnOk P0 w K mg base CX0 1 f fd ["self"] (spCN cCo) := by
  refine F.ok sc3 (fun vs H Q E h => ?_) (fun cdv A outer s H vs Q E hr h => ?_)
  · obtain ⟨p, n, e, es, rfl, _⟩ := h
    rfl
  · obtain ⟨p, n, e, es, rfl, ⟨⟨dx, h1⟩, h2, h3, h4⟩, hQ⟩ := h
    refine ⟨_, PSs.nox (pss_one (ps_ret (pe_callTy call_dictD (by rfl) T.b_dict (by decide +kernel) (pa_cons (pe_fld (pv 0) rfl) pa_nil)))), ?_⟩
    exact ⟨_, rfl, p, cCo, dx, _, _, rfl, h1, T.clCo, T.cNames, flds_n n e, n, [], rfl, .inl h2, hQ⟩
/-! ### enter -/
def spCE (cCo cRe : Addr) : Sp := fun vs H Q E => ∃ p n e es x, vs = [V.ref p, .str x] ∧ lineOk x ∧ ConAt cCo H p n e es ∧
  ((es.length < 300 ∧ ∀ (t r : Addr) (H' : Hp), ConAt cCo H' p n e (es ++ [.ref t]) → (∀ q o, q ≠ e → H q = some o → H' q = some o) → Q (.ref r) H') ∨
  (es.length = 300 ∧ ∀ d : Addr, H d = none → E (.ref cRe) (some d) (upd H d (.xd [("reason", .str "lines")]))))
theorem scCE : FnScope ["self", "line", "reply", "found"] ["self", "line"] (defScope sCE) := ⟨rfl, rfl, rfl, by decide +kernel, rfl, by decide +kernel, by decide +kernel⟩
theorem ok_ce {fT fD : Addr} {fdT fdD : FuncData} (T : Tx w K mg cNo iNo cMa cRe iRe cRp cCo) (F : FnP K "enter" "Console.enter" sCE f fd) (GT : FnOk P0 w K mg base CX0 4 fT fdT ["names", "line"] spRT) (gT : mg "reply_to" = some (.ref fT)) (FT : FnP K "reply_to" "reply_to" (top 161) fT fdT)
    (GD : FnOk P0 w K mg base CX0 3 fD fdD ["names", "line"] spDF) (gD : mg "defined" = some (.ref fD)) (FD : FnP K "defined" "defined" (top 162) fD fdD) : FnOk P0 w K mg base (L2.CX P0 w) 5 f fd ["self", "line"] (spCE cCo cRe) := by
  have bT : Binds K fdT ["names", "line"] [] := FT.bindsN fun _ _ _ _ _ _ us hl => match us, hl with | [_, _], _ => rfl
  have bD : Binds K fdD ["names", "line"] [] := FD.bindsN fun _ _ _ _ _ _ us hl => match us, hl with | [_, _], _ => rfl
  refine F.ok scCE (fun vs H Q E h => ?_) (fun cdv A outer s H vs Q E hr h => ?_)
  · obtain ⟨p, n, e, es, x, rfl, _⟩ := h
    rfl
  · obtain ⟨p, n, e, es, x, rfl, hx, C, hc⟩ := h
    have hr3 : Room 3 _ := hr.mono (by decide)
    refine ⟨_, pss_cons (ps_if (pt_cmpR op_ge (pe_callB call_len (by rfl) T.b_len (by decide +kernel) (pa_cons (pe_fld (pv 0) rfl) pa_nil)) (pe_fld (pv 0) rfl) (nomark _)) (pss_one (ps_raise rfl (takes_of rfl rfl rfl rfl) (pmk_err T.eR hr (pa_cons pe_str pa_nil) rfl (by decide)))) pss_nil)
      (pss_cons (ps_set (i := 2) scCE.nd rfl (Or.inl rfl) (pe_call GT hr rfl gT FT.kp bT .nil pass0 (pa_cons (pe_fld (pv 0) rfl) (pa_cons (pv 1) pa_nil))))
      (pss_cons (ps_set (i := 3) scCE.nd rfl (Or.inl rfl) (pe_call GD hr3 rfl gD FD.kp bD .nil pass0 (pa_cons (pe_fld (pv 0) rfl) (pa_cons (pv 1) pa_nil))))
      (pss_cons (ps_if (pt_cmpR op_notN (pv 3) pe_non (nomark _)) pss_never pss_nil)
      (pss_cons (ps_expr (pe_bm PySem.F.plainAttrs_list PySem.F.slot_list_append PySem.F.type_list_append mt_append (pe_fld (pv 0) rfl) (pa_cons (pe_tup (pa_cons (pv 1) (pa_cons (pv 2) pa_nil))) pa_nil)))
      (pss_one (ps_ret (pv 2))))))), ?_⟩
    obtain ⟨⟨dx, h1⟩, h2, h3, h4⟩ := id C
    refine ⟨_, rfl, p, cCo, dx, _, _, rfl, h1, T.clCo, T.cEnt, flds_e n e, _, es.length, rfl, .inl ⟨_, SqL.of h3, rfl⟩, ?_⟩
    refine ⟨_, rfl, p, cCo, dx, _, _, rfl, h1, T.clCo, T.cMost, flds_m n e, _, _, rfl, rfl, _, rfl, ?_⟩
    rcases hc with ⟨hl, hQ⟩ | ⟨hl, hE⟩
    · rw [decide_eq_false (by omega)]
      refine iteF ?_
      refine ⟨_, rfl, p, cCo, dx, _, _, rfl, h1, T.clCo, T.cNames, flds_n n e, _, rfl, _, x, rfl, hx, fun r H1 s1 => ?_⟩
      obtain ⟨⟨dx1, k1⟩, k2, k3, k4⟩ := C.same s1
      refine ⟨_, rfl, p, cCo, dx1, _, _, rfl, k1, T.clCo, T.cNames, flds_n n e, _, rfl, _, x, rfl, hx, fun H2 s2 => ?_⟩
      have C2 := (C.same s1).same s2
      obtain ⟨⟨dx2, m1⟩, m2, m3, m4⟩ := id C2
      refine ⟨_, rfl, rfl, _, rfl, iteF ?_⟩
      refine ⟨_, rfl, p, cCo, dx2, _, _, rfl, m1, T.clCo, T.cEnt, flds_e n e, .inl ⟨rfl, _, SqL.of m3⟩, ?_⟩
      refine ⟨_, rfl, _, rfl, by show 2 ≤ 16777216; decide, fun t ht => ?_⟩
      have net : e ≠ t := ne_of_none m3 ht
      refine ⟨e, _, _, rfl, rfl, (by rw [upd_ne net]; exact m3), (by show es.length < 16777216; omega), ?_⟩
      refine ⟨_, rfl, ?_⟩
      have keep : ∀ q o, q ≠ e → H2 q = some o → (upd (upd H2 t (.tup [V.str x, V.ref r])) e (.lst (es ++ [V.ref t]))) q = some o := fun q o hq z => by
        rw [upd_ne hq, upd_ne (ne_of_none z ht)]
        exact z
      refine hQ t r _ ⟨⟨dx2, keep _ _ (ne_of m1 m3 (by intro z; cases z)) m1⟩, keep _ _ (ne_of m2 m3 (by intro z; cases z)) m2, upd_same, fun v hv => ?_⟩ fun q o hq z => keep q o hq (s2 q o (s1 q o z))
      rcases List.mem_append.mp hv with hv | hv
      · exact h4 v hv
      · exact ⟨t, by simpa using hv⟩
    · rw [decide_eq_true (by omega)]
      refine iteT ?_
      exact ⟨_, rfl, fun d hd => hE d hd⟩
end
end K98

set_option Elab.async false
set_option linter.all false
set_option maxRecDepth 100000
set_option maxHeartbeats 2000000
/-! P98d: the law's helpers. -/
namespace K98
open PySem PySem.Spec PyProof.Rows L2 ItX DL
section
variable {X : Cx} {CX : CXT} {k : Nat} {f C : Addr} {m : Str} {fd : FuncData} {ps : List Str} {sp : Sp} {E : L2.St → XK} {ds : List Value} {dvs : List V} {e o : Expr} {es : List Expr} {to : TE} {t : TA} {apos cpos : Pos}
/-- o.m(e, ..), what is raised is wished for at the caller's slots -/
def tMethX (C : Addr) (m : Str) (sp : Sp) (dvs : List V) (E : L2.St → XK) (to : TE) (t : TA) : TE := fun σ H Q => to σ H fun x H1 => ∃ a dx fs, x = .ref a ∧ H1 a = some (.ins C dx fs) ∧ fs.lookup m = none ∧ t σ H1 fun vs H2 => sp (x :: (vs ++ dvs)) H2 Q (E σ)
theorem pe_methX {pl : Sem Bool} (ho : PE X o to) (cl : Cls X.K C) (hm : Meth X.K C m f) (F : FnOk X.prog X.w X.K X.mg X.base CX k f fd ps sp) (hr : Room k X.A) (hb : Binds X.K fd ps ds) (hd : Vals dvs ds) (hx : ∀ σ, PassesAt CX X σ (E σ)) (ha : PA X (e :: es) t)
    (hst : starEach (e :: es) X.env = (false, eval e X.env) :: starEach es X.env := by rfl) (hpl : (backTo cpos (starEach es X.env)).any (·.1) = false := by rfl)
    (ht : eval (.Call (.Attribute o m apos) (e :: es) [] cpos) X.env = (do
      let ov ← eval o X.env
      standAt apos.atName
      let (f, first) ← holding [ov] (getMethod ov m pl)
      callWith cpos f first (backTo cpos (starEach (e :: es) X.env)) (backToKw cpos (keywordEach [] X.env))) := by rfl) : PE X (.Call (.Attribute o m apos) (e :: es) [] cpos) (tMethX C m sp dvs E to t) := by
  refine ⟨fun pins s σ H Q I h => ?_⟩
  refine PySem.W.methodCall_KW (pl := pl) (thn (ho.run pins s σ H _ I h) fun u s1 hh => ?_) ht
  obtain ⟨x, H1, I1, rx, a, dx, fs, ex, ea, l, q⟩ := hh
  subst ex
  obtain rfl : u = Value.ref a := rx
  refine getmeth_ok I1 ea cl hm l ?_
  refine PySem.W.callWith_K (first := [.ref a]) (h₀ := X.base) I.ok.mod.kin hm.kp (thn (ha.run cpos pins s1 σ H1 _ I1 q) fun us s2 hh => ?_) hst hpl
  obtain ⟨vs, H2, I2, r, q2⟩ := hh
  exact ⟨I2.kIn, run_fnSD (us := .ref a :: us) (vs := .ref a :: vs) (E := E) F hr hb hd (hx σ) I2 (.cons rfl r) (by rw [List.cons_append]; exact q2)⟩
end
section
variable {w : World} {K : PySem.W.Frag} {mg : Str → Option Value} {base : Heap} {cNo iNo cMa cRe iRe cRp cCo : Addr} {f : Addr} {fd : FuncData}
/-! ### _law_state -/
def spSt (K : PySem.W.Frag) : Sp := fun vs H Q _ => ∃ (a : Addr) (ns : List Int), vs = [.ref a] ∧ SqL K H a (ns.map V.int) ∧ ∀ (H' : Hp) (q : Addr) (s t : Int), Same H H' → H' q = some (.lst [.int s, .int t]) → 0 ≤ s → 0 ≤ t → t < 2147483647 → Q (.ref q) H'
theorem scSt : FnScope ["script", "seed", "total", "cell"] ["script"] (defScope (top 166)) := ⟨rfl, rfl, rfl, by decide +kernel, rfl, by decide +kernel, by decide +kernel⟩
theorem cut_int {ns : List Int} {lo hi : Option Int} {i : Nat} {v : V} (h : (cutV (ns.map V.int) lo hi)[i]? = some v) : ∃ n, v = V.int n := by
  have h1 : v ∈ cutV (ns.map V.int) lo hi := List.mem_of_getElem? h
  unfold cutV at h1
  obtain ⟨n, _, e⟩ := List.mem_map.mp (List.mem_of_mem_drop (List.mem_of_mem_take h1))
  exact ⟨n, e.symm⟩
theorem ok_st (T : Tx w K mg cNo iNo cMa cRe iRe cRp cCo) (F : FnP K "_law_state" "_law_state" (top 166) f fd) : FnOk P0 w K mg base CX0 1 f fd ["script"] (spSt K) := by
  refine F.ok scSt (fun vs H Q E h => ?_) (fun cdv A outer s H vs Q E hr h => ?_)
  · obtain ⟨a, ns, rfl, _⟩ := h
    rfl
  · obtain ⟨a, ns, rfl, hS, hQ⟩ := h
    refine ⟨_, PSs.nox (pss_cons (ps_set (i := 1) scSt.nd rfl (Or.inl rfl) pe_int) (pss_cons (ps_set (i := 2) scSt.nd rfl (Or.inl rfl) pe_int)
      (pss_cons (ps_for PassesOwn.never rfl (pi_list (pe_slice sl_list (pv 0) po_none (po_some pe_int))) (pg_name (i := 3) scSt.nd rfl (Or.inl rfl))
        (pss_cons (ps_set (i := 1) scSt.nd rfl (Or.inl rfl) (pe_op op_add (pe_op op_mul (pv 1) pe_int) (pe_callB call_abs (by rfl) T.b_abs (by decide +kernel) (pa_cons (pv 3) pa_nil))))
        (pss_one (ps_set (i := 2) scSt.nd rfl (Or.inl rfl) (pe_op op_mod (pe_callTy call_int1 (by rfl) T.b_int (by decide +kernel) (pa_cons (pe_op op_add (pe_op op_mul (pv 2) pe_int) (pv 3)) pa_nil)) pe_int)))))
      (pss_one (ps_ret (pe_lst (pa_cons (pv 1) (pa_cons (pe_ifExp (pt_cmpR op_ne (pv 2) pe_int (nomark _)) (pv 2) pe_int) pa_nil)))))))), ?_⟩
    refine ⟨_, rfl, _, rfl, a, _, rfl, hS, fun p hp => ?_⟩
    have s0 : Same H (upd H p (.lst (cutV (ns.map V.int) none (some 63)))) := fun b o e => by rw [upd_ne (ne_of_none e hp)]; exact e
    refine ⟨p, rfl, ⟨_, SqL.of upd_same⟩, for_list (K := K) (a := p) (xs := cutV (ns.map V.int) none (some 63)) (fun i σ H' => ∃ (s t : Int) (v : Option V), σ = [some (.ref a), some (.int s), some (.int t), v] ∧ 0 ≤ s ∧ 0 ≤ t ∧ t < 2147483647 ∧ H' = upd H p (.lst (cutV (ns.map V.int) none (some 63))))
      ⟨0, 1, none, rfl, by omega, by omega, by omega, rfl⟩ (fun i σ H' _ ⟨_, _, _, _, _, _, _, e⟩ => by rw [e]; exact SqL.of upd_same) ?_ ?_⟩
    · rintro i y σ H' hi ⟨s, t, v, rfl, h1, h2, h3, rfl⟩
      obtain ⟨n, rfl⟩ := cut_int hi
      refine ⟨_, rfl, _, _, rfl, rfl, .inr (by decide), _, rfl, _, rfl, _, _, rfl, rfl, ?_⟩
      refine ⟨_, rfl, _, _, rfl, rfl, .inr (by decide), _, rfl, _, _, rfl, rfl, .inl ⟨_, rfl, _, _, rfl, rfl, (show (0 : Int) < 2147483647 by decide), ?_⟩⟩
      refine ⟨_, _, _, rfl, ?_, Int.emod_nonneg _ (by decide), Int.emod_lt_of_pos _ (by decide), rfl⟩
      have ha : 0 ≤ (if n < 0 then -n else n) := by
        split <;> omega
      omega
    · rintro σ H' ⟨s, t, v, rfl, h1, h2, h3, rfl⟩
      refine ⟨_, rfl, _, rfl, rfl, _, rfl, ?_⟩
      cases hb : (!decide (V.int t = V.int 1973665155)) with
      | true =>
        refine iteT ⟨_, rfl, by show 2 ≤ 16777216; decide, fun q hq => ?_⟩
        exact hQ _ q s t (fun b o e => by rw [upd_ne (ne_of_none (s0 b o e) hq)]; exact s0 b o e) upd_same h1 h2 h3
      | false =>
        refine iteF ⟨by show 2 ≤ 16777216; decide, fun q hq => ?_⟩
        exact hQ _ q s 7 (fun b o e => by rw [upd_ne (ne_of_none (s0 b o e) hq)]; exact s0 b o e) upd_same h1 (by omega) (by omega)
/-! ### _law_take(state, 4) -/
def spTk : Sp := fun vs H Q _ => ∃ (q : Addr) (s t : Int), vs = [.ref q, .int 4] ∧ H q = some (.lst [.int s, .int t]) ∧ ∀ (H' : Hp) (r : Int), (∀ b o, b ≠ q → H b = some o → H' b = some o) → 0 ≤ r → r < 4 → Q (.int r) H'
theorem scTk : FnScope ["state", "m", "value"] ["state", "m"] (defScope (top 167)) := ⟨rfl, rfl, rfl, by decide +kernel, rfl, by decide +kernel, by decide +kernel⟩
theorem fmod4 (i : Int) : 0 ≤ i.fmod 4 ∧ i.fmod 4 < 4 := by
  rw [Int.fmod_eq_emod_of_nonneg _ (by decide)]
  omega
theorem ok_tk (T : Tx w K mg cNo iNo cMa cRe iRe cRp cCo) (F : FnP K "_law_take" "_law_take" (top 167) f fd) : FnOk P0 w K mg base CX0 1 f fd ["state", "m"] spTk := by
  refine F.ok scTk (fun vs H Q E h => ?_) (fun cdv A outer s H vs Q E hr h => ?_)
  · obtain ⟨q, s, t, rfl, _⟩ := h
    rfl
  · obtain ⟨q, s, t, rfl, hq, hQ⟩ := h
    refine ⟨_, PSs.nox (pss_cons (ps_if (pt_cmpR op_gt (pe_ix ix_list (pv 0) pe_int (fun _ _ => rfl)) pe_int (nomark _))
        (pss_cons (ps_set (i := 2) scTk.nd rfl (Or.inl rfl) (pe_op op_modN (pe_callTy call_int1 (by rfl) T.b_int (by decide +kernel) (pa_cons (pe_ix ix_list (pv 0) pe_int (fun _ _ => rfl)) pa_nil)) (pv 1)))
        (pss_cons (ps_asg (pe_op op_fdivN (pe_ix ix_list (pv 0) pe_int (fun _ _ => rfl)) (pv 1)) (pg_sub (pv 0) pe_int set_list))
        (pss_one (ps_ret (pv 2))))) pss_nil)
      (pss_cons (ps_asg (pe_op op_mod (pe_callTy call_int1 (by rfl) T.b_int (by decide +kernel) (pa_cons (pe_op op_add (pe_op op_mul (pe_ix ix_list (pv 0) pe_int (fun _ _ => rfl)) pe_int) pe_int) pa_nil)) pe_int) (pg_sub (pv 0) pe_int set_list))
      (pss_one (ps_ret (pe_op op_modN (pe_callTy call_int1 (by rfl) T.b_int (by decide +kernel) (pa_cons (pe_op op_fdiv (pe_ix ix_list (pv 0) pe_int (fun _ _ => rfl)) pe_int) pa_nil)) (pv 1)))))), ?_⟩
    refine ⟨_, rfl, q, _, _, _, rfl, rfl, SqL.of hq, rfl, _, _, rfl, rfl, _, rfl, ?_⟩
    cases hb : decide ((0 : Int) < s) with
    | true =>
      refine iteT ?_
      refine ⟨_, rfl, q, _, _, _, rfl, rfl, SqL.of hq, rfl, .inl ⟨_, rfl, _, rfl, _, _, rfl, rfl, (show (4 : Int) ≠ 0 by decide), ?_⟩⟩
      refine ⟨_, rfl, q, _, _, _, rfl, rfl, SqL.of hq, rfl, _, rfl, _, _, rfl, rfl, (show (4 : Int) ≠ 0 ∧ (4 : Int).natAbs < 1073741824 by decide), ?_⟩
      refine ⟨_, rfl, q, _, _, _, rfl, rfl, hq, rfl, ?_⟩
      refine ⟨_, rfl, ?_⟩
      obtain ⟨f1, f2⟩ := fmod4 s
      exact hQ _ _ (fun b o hb e => by rw [upd_ne hb]; exact e) f1 f2
    | false =>
      refine iteF ?_
      refine ⟨_, rfl, q, _, _, _, rfl, rfl, SqL.of hq, rfl, _, _, rfl, rfl, .inr (by decide), _, _, rfl, rfl, .inl ⟨_, rfl, _, _, rfl, rfl, (show (0 : Int) < 2147483647 by decide), ?_⟩⟩
      refine ⟨_, rfl, q, _, _, _, rfl, rfl, hq, rfl, ?_⟩
      refine ⟨_, rfl, q, _, _, _, rfl, rfl, SqL.of upd_same, rfl, _, _, rfl, rfl, ⟨by decide, by decide⟩, .inl ⟨_, rfl, _, rfl, _, _, rfl, rfl, (show (4 : Int) ≠ 0 by decide), ?_⟩⟩
      obtain ⟨f1, f2⟩ := fmod4 ((t * 48271 + 11) % 2147483647 / 7)
      exact hQ _ _ (fun b o hb e => by rw [upd_ne hb]; exact e) f1 f2
/-! ### _law_enter -/
theorem no_wish {X : Cx} : Takes X (fun _ _ _ _ => False) := fun _ _ x => by
  obtain ⟨_, _, _, _, _, _, _, _, _, _, _, _, _, _, _, _, z⟩ := x
  exact z.elim
def spLE (cCo : Addr) : Sp := fun vs H Q _ => ∃ p n e es x, vs = [V.ref p, .str x] ∧ lineOk x ∧ ConAt cCo H p n e es ∧
  ((es.length < 300 ∧ ∀ (t : Addr) (H' : Hp), ConAt cCo H' p n e (es ++ [.ref t]) → (∀ q o, q ≠ e → H q = some o → H' q = some o) → Q (.str "none") H') ∨
  (es.length = 300 ∧ ∀ H' : Hp, Same H H' → Q (.str "lines") H'))
theorem scLE : FnScope ["console", "line", "bad"] ["console", "line"] (defScope (top 168)) := ⟨rfl, rfl, rfl, by decide +kernel, rfl, by decide +kernel, by decide +kernel⟩
theorem enter_no (n e : Addr) : (flds n e).lookup ("enter" : Str) = none := by kernel_rfl
theorem ok_le {fE : Addr} {fdE : FuncData} (T : Tx w K mg cNo iNo cMa cRe iRe cRp cCo) (F : FnP K "_law_enter" "_law_enter" (top 168) f fd) (GE : FnOk P0 w K mg base (L2.CX P0 w) 5 fE fdE ["self", "line"] (spCE cCo cRe)) (FE : FnP K "enter" "Console.enter" sCE fE fdE) (mE : Meth K cCo "enter" fE) :
    FnOk P0 w K mg base CX0 6 f fd ["console", "line"] (spLE cCo) := by
  have bE : Binds K fdE ["self", "line"] [] := FE.bindsN fun _ _ _ _ _ _ us hl => match us, hl with | [_, _], _ => rfl
  refine F.ok scLE (fun vs H Q E h => ?_) (fun cdv A outer s H vs Q E hr h => ?_)
  · obtain ⟨p, n, e, es, x, rfl, _⟩ := h
    rfl
  · obtain ⟨p, n, e, es, x, rfl, hx, C, hc⟩ := h
    refine ⟨_, PSs.nox (pss_cons (ps_try_as (i := 2) (tb := fun W => tDrop (tMethX cCo "enter" (spCE cCo cRe) [] (WE W) (tVar 0) (tCons (tVar 1) tNil))) (ts := fun a cls d => tRet (tByErr "reason" cRe a cls d (tVar 2))) (Wout := fun _ _ _ _ => False) rfl rfl scLE.nd rfl rfl ⟨rfl, by decide, Or.inl T.eR.gC⟩ no_wish
        (fun W pn xe tk _ => pss_one (ps_expr (pe_methX (pv 0) T.clCo mE GE hr bE .nil (fun σ => passAt tk σ) (by exact (pa_cons (pv 1) pa_nil)))))
        (fun a oe cls d pn hz hf => pss_one (ps_ret (pe_byErr T.eR hz hf (pv 2) (by rfl)))))
      (pss_one (ps_ret pe_str))), ?_⟩
    obtain ⟨⟨dx, h1⟩, h2, h3, h4⟩ := id C
    refine ⟨_, rfl, p, dx, _, rfl, h1, enter_no n e, _, rfl, p, n, e, es, x, rfl, hx, C, ?_⟩
    rcases hc with ⟨hl, hQ⟩ | ⟨hl, hQ⟩
    · exact .inl ⟨hl, fun t r H' C' k => hQ t H' C' k⟩
    · refine .inr ⟨hl, fun d hd => ⟨true, T.eR.te, fun _ a ha => ?_, fun q => nomatch q⟩⟩
      exact ⟨_, rfl, rfl, rfl, d, _, rfl, upd_same, hQ _ fun b o z => by rw [upd_ne (ne_of_none z hd)]; exact z⟩
end
end K98

set_option Elab.async false
set_option linter.all false
set_option maxRecDepth 100000
set_option maxHeartbeats 4000000
/-! P98e: the law. -/
namespace K98
open PySem PySem.Spec PyProof.Rows L2 ItX DL
abbrev NL : List Str := ["script", "state", "console", "other", "line", "k", "kept", "entry", "text"]
theorem itlF0 {K : PySem.W.Frag} {a : Addr} : ItlF K a 0 = Itl K a := by
  unfold ItlF
  simp only [Nat.zero_add]
/-- what stands between two turns -/
structure LW (cCo : Addr) (H : Hp) (p n e p2 n2 e2 m0 : Addr) (es : List V) : Prop where
  c1 : ConAt cCo H p n e es
  c2 : ConAt cCo H p2 n2 e2 []
  mk0 : ∃ u, H m0 = some u
  ne : e ≠ e2
theorem LW.same {cCo : Addr} {H H' : Hp} {p n e p2 n2 e2 m0 : Addr} {es : List V} (h : LW cCo H p n e p2 n2 e2 m0 es) (s : Same H H') : LW cCo H' p n e p2 n2 e2 m0 es :=
  ⟨h.c1.same s, h.c2.same s, h.mk0.imp fun u z => s _ _ z, h.ne⟩
theorem LW.grow {cCo : Addr} {H H' : Hp} {p n e p2 n2 e2 m0 t : Addr} {es : List V} (h : LW cCo H p n e p2 n2 e2 m0 es) (C : ConAt cCo H' p n e (es ++ [.ref t])) (k : ∀ q o, q ≠ e → H q = some o → H' q = some o) : LW cCo H' p n e p2 n2 e2 m0 (es ++ [.ref t]) := by
  obtain ⟨⟨dx, a1⟩, a2, a3, a4⟩ := h.c2
  obtain ⟨_, _, b3, _⟩ := h.c1
  refine ⟨C, ⟨⟨dx, k _ _ (ne_of a1 b3 (by intro z; cases z)) a1⟩, k _ _ (ne_of a2 b3 (by intro z; cases z)) a2, k _ _ (Ne.symm h.ne) a3, a4⟩, ?_, h.ne⟩
  obtain ⟨u, hu⟩ := h.mk0
  by_cases z : m0 = e
  · subst z
    exact ⟨_, C.en⟩
  · exact ⟨u, k _ _ z hu⟩
/-- the drawn line -/
theorem draw {r : Int} (h0 : 0 ≤ r) (h4 : r < 4) : ∃ x, atI [V.str "", .str "# a", .str "  ", .str "?"] r = some (V.str x) ∧ lineOk x := by
  have : r = 0 ∨ r = 1 ∨ r = 2 ∨ r = 3 := by omega
  rcases this with rfl | rfl | rfl | rfl
  · exact ⟨_, rfl, line_all _ (by simp [allL])⟩
  · exact ⟨_, rfl, line_all _ (by simp [allL])⟩
  · exact ⟨_, rfl, line_all _ (by simp [allL])⟩
  · exact ⟨_, rfl, line_all _ (by simp [allL])⟩
section
variable {w : World} {K : PySem.W.Frag} {mg : Str → Option Value} {base : Heap} {cNo iNo cMa cRe iRe cRp cCo : Addr} {f : Addr} {fd : FuncData}
def spLaw (K : PySem.W.Frag) : Sp := fun vs H Q _ => ∃ (a : Addr) (ns : List Int), vs = [.ref a] ∧ SqL K H a (ns.map V.int) ∧ ∀ H', Q (.bl true) H'
theorem scLaw : FnScope NL ["script"] (defScope (top 169)) := ⟨rfl, rfl, rfl, by decide +kernel, rfl, by decide +kernel, by decide +kernel⟩
theorem no_names (n e : Addr) : (flds n e).lookup ("names" : Str) = none := by kernel_rfl
/-- what comes of [entry for entry in o] -/
theorem comp_own {n : Nat} {σ : L2.St} {H : Hp} {Q : VK} {p nn e : Addr} {es : List V} {i : Nat} {ow : List (Str × Nat)} (C : ConAt cCo H p nn e es) (hi : σ[i]? = some (some (V.ref p))) (hw : ow.map (·.2) = [7]) (hlen : 7 < σ.length) (hl : es.length ≤ 300) (mk : ∃ b u, H b = some u ∧ n ≤ b)
    (h : ∀ D, H D = none → Q (.ref D) (upd H D (.lst es))) : tLc (iOwn K n cCo (spCT cCo) E0 [] (tVar i)) (gName 7) tYes (tVar 7) (ow.map (·.2)) σ H Q := by
  obtain ⟨⟨dx, h1⟩, h2, h3, h4⟩ := id C
  refine ⟨_, hi, p, dx, _, rfl, h1, p, nn, e, es, rfl, C, fun it hit hn => ?_⟩
  obtain ⟨b, u, hb, hnb⟩ := mk
  have := hit b u hb
  refine ⟨it, e, rfl, upd_same, Nat.le_of_lt (Nat.lt_of_le_of_lt hnb this), ?_⟩
  rw [itlF0, dropH_upd hn, hw]
  intro D hD
  have neD : e ≠ D := ne_of_none h3 hD
  refine lc_list (K := K) (a := e) (xs := es) (fun j H' => H' = upd H D (.lst (es.take j))) rfl (fun j H' _ z => by
    rw [z]
    exact SqL.of (by rw [upd_ne neD]; exact h3)) ?_ ?_
  · rintro j v H' hj rfl
    have hlt : j < es.length := (List.getElem?_eq_some_iff.mp hj).1
    have h7 : (wipe σ [7]).length = σ.length := by simp [wipe]
    refine ⟨?_, ?_⟩
    · simp [wipe]
    unfold tYes
    dsimp only
    rw [if_pos rfl]
    refine ⟨v, ?_, _, upd_same, ?_, ?_⟩
    · rw [List.getElem?_set_self (by rw [h7]; exact hlen)]
    · have h2 := List.length_take_le j es
      show _ < 16777216
      omega
    · rw [upd_upd, List.take_add_one, hj]
      rfl
  · rintro H' rfl
    rw [List.take_length]
    exact h D hD
theorem asg_comp {n : Nat} {σ : L2.St} {H : Hp} {p nn e : Addr} {es : List V} {i : Nat} {D : Ends} {u : TS} (C : ConAt cCo H p nn e es) (hi : σ[i]? = some (some (V.ref p))) (hw : ([("entry", 7)] : List (Str × Nat)).map (·.2) = [7]) (hlen : 7 < σ.length) (hl : es.length ≤ 300) (mk : ∃ b u, H b = some u ∧ n ≤ b)
    (h : ∀ D', H D' = none → u D (σ.set 6 (some (V.ref D'))) (upd H D' (.lst es))) : tSeq (tAsg (tLc (iOwn K n cCo (spCT cCo) E0 [] (tVar i)) (gName 7) tYes (tVar 7) (([("entry", 7)] : List (Str × Nat)).map (·.2))) (gName 6)) u D σ H :=
  comp_own (ow := [("entry", 7)]) (Q := fun v H1 => u D (σ.set 6 (some v)) H1) C hi hw hlen hl mk h
theorem ne_comp {n : Nat} {σ : L2.St} {H : Hp} {p nn e : Addr} {es : List V} {i : Nat} {tb : TE} {Q : Bool → Hp → Prop} (C : ConAt cCo H p nn e es) (hi : σ[i]? = some (some (V.ref p))) (hw : ([("entry", 7)] : List (Str × Nat)).map (·.2) = [7]) (hlen : 7 < σ.length) (hl : es.length ≤ 300) (mk : ∃ b u, H b = some u ∧ n ≤ b)
    (h : ∀ D', H D' = none → tb σ (upd H D' (.lst es)) fun y H2 => rNeSame (.ref D') y H2 fun v H3 => ∃ k, v = V.bl k ∧ Q k H3) : tTest (tOp rNeSame (tLc (iOwn K n cCo (spCT cCo) E0 [] (tVar i)) (gName 7) tYes (tVar 7) (([("entry", 7)] : List (Str × Nat)).map (·.2))) tb) σ H Q :=
  comp_own (ow := [("entry", 7)]) (Q := fun v H1 => tb σ H1 fun y H2 => rNeSame v y H2 fun v H3 => ∃ k, v = V.bl k ∧ Q k H3) C hi hw hlen hl mk h
theorem ok_law {fS fT fE fI fLn fIt fNm : Addr} {fdS fdT fdE fdI fdLn fdIt fdNm : FuncData} (T : Tx w K mg cNo iNo cMa cRe iRe cRp cCo) (F : FnP K "law" "law" (top 169) f fd)
    (FS : FnP K "_law_state" "_law_state" (top 166) fS fdS) (gS : mg "_law_state" = some (.ref fS)) (FT : FnP K "_law_take" "_law_take" (top 167) fT fdT) (gT : mg "_law_take" = some (.ref fT))
    (GE : FnOk P0 w K mg base CX0 6 fE fdE ["console", "line"] (spLE cCo)) (FE : FnP K "_law_enter" "_law_enter" (top 168) fE fdE) (gE : mg "_law_enter" = some (.ref fE)) (FI : FnI K fI fdI) (M : Mk K cCo fI)
    (FLn : FnP K "__len__" "Console.__len__" sCL fLn fdLn) (mLn : Meth K cCo "__len__" fLn) (FIt : FnP K "__iter__" "Console.__iter__" sCT fIt fdIt) (mIt : Meth K cCo "__iter__" fIt) (FNm : FnP K "names" "Console.names" sCN fNm fdNm) (mNm : Meth K cCo "names" fNm) :
    FnOk P0 w K mg base CX0 7 f fd ["script"] (spLaw K) := by
  have GS : FnOk P0 w K mg base CX0 1 fS fdS ["script"] (spSt K) := ok_st T FS
  have bS : Binds K fdS ["script"] [] := FS.bindsN fun _ _ _ _ _ _ us hl => match us, hl with | [_], _ => rfl
  have GT : FnOk P0 w K mg base CX0 1 fT fdT ["state", "m"] spTk := ok_tk T FT
  have bT : Binds K fdT ["state", "m"] [] := FT.bindsN fun _ _ _ _ _ _ us hl => match us, hl with | [_, _], _ => rfl
  have bE : Binds K fdE ["console", "line"] [] := FE.bindsN fun _ _ _ _ _ _ us hl => match us, hl with | [_, _], _ => rfl
  have GI : FnOk P0 w K mg base CX0 1 fI fdI ["self", "most"] (spCI cCo) := ok_ci T FI
  obtain ⟨dI, hdI, bI⟩ := bind_ci FI
  have GLn : FnOk P0 w K mg base CX0 1 fLn fdLn ["self"] (spCL cCo) := ok_cl T FLn
  have bLn : Binds K fdLn ["self"] [] := FLn.bindsN fun _ _ _ _ _ _ us hl => match us, hl with | [_], _ => rfl
  have GIt : FnOk P0 w K mg base CX0 1 fIt fdIt ["self"] (spCT cCo) := ok_ct T FIt
  have bIt : Binds K fdIt ["self"] [] := FIt.bindsN fun _ _ _ _ _ _ us hl => match us, hl with | [_], _ => rfl
  have GNm : FnOk P0 w K mg base CX0 1 fNm fdNm ["self"] (spCN cCo) := ok_cn T FNm
  have bNm : Binds K fdNm ["self"] [] := FNm.bindsN fun _ _ _ _ _ _ us hl => match us, hl with | [_], _ => rfl
  refine F.ok scLaw (fun vs H Q E h => ?_) (fun cdv A outer s H vs Q E hr h => ?_)
  · obtain ⟨a, ns, rfl, _⟩ := h
    rfl
  · obtain ⟨a, ns, rfl, hS, hQ⟩ := h
    have hr1 : Room 1 _ := hr.mono (by decide)
    have hr2 : Room 2 _ := hr.mono (by decide)
    have hu := hu_of hr
    have nd := scLaw.nd
    refine ⟨_, PSs.nox (pss_cons (ps_set (i := 1) nd rfl (Or.inl rfl) (pe_call GS hr1 rfl gS FS.kp bS .nil pass0 (pa_cons (pv 0) pa_nil)))
      (pss_cons (ps_par (i := 2) (j := 3) (by rfl) nd rfl rfl (by decide) rfl rfl (pa_cons (pe_make0 M GI hr2 rfl T.gCo bI hdI pass0) (pa_cons (pe_make0 M GI hr2 rfl T.gCo bI hdI pass0) pa_nil)) (by rfl))
      (pss_cons (ps_set (i := 4) nd rfl (Or.inl rfl) (pe_ix ix_list (pe_lstN (pa_cons pe_str (pa_cons pe_str (pa_cons pe_str (pa_cons pe_str pa_nil))))) (pe_call GT hr1 rfl gT FT.kp bT .nil pass0 (pa_cons (pv 1) (pa_cons pe_int pa_nil))) (fun _ _ => rfl)))
      (pss_cons (ps_for PassesOwn.never rfl (pi_range1 rfl T.b_range (pa_cons pe_int pa_nil)) (pg_name (i := 5) nd rfl (Or.inl rfl))
        (pss_one (ps_if (pt_cmpR op_ne (pe_call GE hr rfl gE FE.kp bE .nil pass0 (pa_cons (pv 2) (pa_cons (pv 4) pa_nil))) pe_str (nomark _)) (pss_one (ps_ret pe_bl)) pss_nil)))
      (pss_cons (ps_setLc (i := 6) (own := [("entry", 7)]) (g := gName 7) (by rfl) nd rfl rfl (sw_true rfl rfl rfl (by decide +kernel)) (pi_own (pv 2) mIt GIt hr1 bIt .nil pass0) (blkOk_by (own := [("entry", 7)]) (N := NL) (sc := defScope (top 169)) (by decide +kernel))
        (fun _ _ _ _ _ => pg_name (i := 7) nd rfl (Or.inl rfl)) (fun _ _ _ _ _ => pts_nil) (fun _ _ _ _ _ => pv 7))
      (pss_cons (ps_for PassesOwn.never rfl (pi_list (pe_lst (pa_cons (pv 4) (pa_cons pe_str (pa_cons pe_str (pa_cons pe_str pa_nil)))))) (pg_name (i := 8) nd rfl (Or.inl rfl))
        (pss_one (ps_if (pt_cmpR op_ne (pe_call GE hr rfl gE FE.kp bE .nil pass0 (pa_cons (pv 2) (pa_cons (pv 8) pa_nil))) pe_str (nomark _)) (pss_one (ps_ret pe_bl)) pss_nil)))
      (pss_cons (ps_if (PW.pt (pw_or (pt_cmpR op_ne (pe_callB (call_lenO mLn GLn hr2 bLn .nil pass0) (by rfl) T.b_len (by decide +kernel) (pa_cons (pv 2) pa_nil)) pe_int (nomark _))
          (pw_or (pt_cmpR (op_neSame hr.units0) (pe_lc (own := [("entry", 7)]) (g := gName 7) (tt := tYes) (by rfl) nd (pi_own (pv 2) mIt GIt hr1 bIt .nil pass0) (blkOk_by (own := [("entry", 7)]) (N := NL) (sc := defScope (top 169)) (by decide +kernel))
            (fun _ _ _ _ _ => pg_name (i := 7) nd rfl (Or.inl rfl)) (fun _ _ _ _ _ => pts_nil) (fun _ _ _ _ _ => pv 7)) (pv 6) (nomark _))
          (pw_or1 (pt_cmpR op_ne (pe_callB call_len (by rfl) T.b_len (by decide +kernel) (pa_cons (pv 6) pa_nil)) pe_int (nomark _)))))) (pss_one (ps_ret pe_bl)) pss_nil)
      (pss_cons (ps_if (PW.pt (pw_or (pt_cmpR (op_ne_dictA hr.units0) (pe_meth0 (pv 2) T.clCo mNm GNm hr1 bNm .nil pass0) pe_dnewK (nomark _))
          (pw_or (pt_cmpR op_ne (pe_callB (call_lenO mLn GLn hr2 bLn .nil pass0) (by rfl) T.b_len (by decide +kernel) (pa_cons (pv 3) pa_nil)) pe_int (nomark _))
          (pw_or1 (pt_cmpR (op_neSame hr.units0) (pe_lc (own := [("entry", 7)]) (g := gName 7) (tt := tYes) (by rfl) nd (pi_own (pv 3) mIt GIt hr1 bIt .nil pass0) (blkOk_by (own := [("entry", 7)]) (N := NL) (sc := defScope (top 169)) (by decide +kernel))
            (fun _ _ _ _ _ => pg_name (i := 7) nd rfl (Or.inl rfl)) (fun _ _ _ _ _ => pts_nil) (fun _ _ _ _ _ => pv 7)) (pe_lst pa_nil) (nomark _)))))) (pss_one (ps_ret pe_bl)) pss_nil)
      (pss_one (ps_ret (pe_and (pe_cmpR op_eq (pe_call GE hr rfl gE FE.kp bE .nil pass0 (pa_cons (pv 3) (pa_cons (pv 4) pa_nil))) pe_str (nomark _))
        (pe_and (pe_cmpR op_eq (pe_callB (call_lenO mLn GLn hr2 bLn .nil pass0) (by rfl) T.b_len (by decide +kernel) (pa_cons (pv 3) pa_nil)) pe_int (nomark _))
        (pe_one (pe_cmpR op_eq (pe_callB (call_lenO mLn GLn hr2 bLn .nil pass0) (by rfl) T.b_len (by decide +kernel) (pa_cons (pv 2) pa_nil)) pe_int (nomark _))))))))))))))), ?_⟩
    refine ⟨_, rfl, a, ns, rfl, hS, fun H1 q sd tt s1 hq h0 ht ht2 => ?_⟩
    refine fun x dx hx hdx nex => ⟨x, dx, rfl, upd_same, fun n e H2 hn he C1 k1 => ⟨rfl, fun x2 dx2 hx2 hdx2 nex2 => ⟨x2, dx2, rfl, upd_same, fun n2 e2 H3 hn2 he2 C2 k2 => ⟨rfl, _, _, rfl, ?_⟩⟩⟩⟩
    have kA : Same H1 H2 := fun b o z => k1 b o (ne_of_none z hx) (by rw [upd_ne (ne_of_none z hx), upd_ne (ne_of_none z hdx)]; exact z)
    have kB : Same H2 H3 := fun b o z => k2 b o (ne_of_none z hx2) (by rw [upd_ne (ne_of_none z hx2), upd_ne (ne_of_none z hdx2)]; exact z)
    have up1 : ∀ b o, H1 b = some o → (upd (upd H1 dx (.own x)) x (.ins cCo dx [])) b = some o := fun b o z => by rw [upd_ne (ne_of_none z hx), upd_ne (ne_of_none z hdx)]; exact z
    have up2 : ∀ b o, H2 b = some o → (upd (upd H2 dx2 (.own x2)) x2 (.ins cCo dx2 [])) b = some o := fun b o z => by rw [upd_ne (ne_of_none z hx2), upd_ne (ne_of_none z hdx2)]; exact z
    have q2 := kA _ _ hq
    have q3 := kB _ _ q2
    refine ⟨by show 4 ≤ 16777216; decide, fun m0 hm hge => ?_⟩
    have qm : q ≠ m0 := ne_of_none q3 hm
    refine ⟨_, rfl, q, sd, tt, rfl, (by rw [upd_ne qm]; exact q3), fun H5 r k5 r0 r4 => ?_⟩
    obtain ⟨y, hy, hyl⟩ := draw r0 r4
    refine ⟨m0, _, _, _, rfl, rfl, SqL.of (k5 _ _ (Ne.symm qm) upd_same), hy, ?_⟩
    have s5 : ∀ b o, b ≠ q → H3 b = some o → H5 b = some o := fun b o hb z => k5 b o hb (by rw [upd_ne (ne_of_none z hm)]; exact z)
    have lw0 : LW cCo H5 x n e x2 n2 e2 m0 [] := by
      refine ⟨(C1.same kB).mono fun b hb o z => s5 b o ?_ z, C2.mono fun b hb o z => s5 b o ?_ z, ⟨_, k5 _ _ (Ne.symm qm) upd_same⟩, ne_of_none (up2 _ _ C1.en) he2⟩
      · rcases hb with rfl | rfl | rfl
        · exact (ne_of_none hq hx).symm
        · exact (ne_of_none (up1 _ _ hq) hn).symm
        · exact (ne_of_none (up1 _ _ hq) he).symm
      · rcases hb with rfl | rfl | rfl
        · exact (ne_of_none q2 hx2).symm
        · exact (ne_of_none (up2 _ _ q2) hn2).symm
        · exact (ne_of_none (up2 _ _ q2) he2).symm
    -- 300 lines
    refine ⟨300, rfl, by decide, by decide, for_range (lo := 0) (n := 300) (fun i σ H' => ∃ es v, σ = [some (.ref a), some (.ref q), some (.ref x), some (.ref x2), some (.str y), v, none, none, none] ∧ es.length = i ∧ LW cCo H' x n e x2 n2 e2 m0 es) ⟨[], none, rfl, rfl, lw0⟩ ?_ ?_⟩
    · rintro i σ H' hi ⟨es, v, rfl, hl, L⟩
      refine ⟨_, rfl, _, rfl, x, n, e, es, y, rfl, hyl, L.c1, .inl ⟨by omega, fun t' H6 C6 k6 => ?_⟩⟩
      refine ⟨rfl, _, rfl, iteNS rfl ?_⟩
      exact ⟨es ++ [.ref t'], _, rfl, by rw [List.length_append, hl]; rfl, L.grow C6 k6⟩
    rintro σ H6 ⟨es, v5, rfl, hl, L6⟩
    obtain ⟨u6, hu6⟩ := L6.mk0
    dsimp only
    refine asg_comp L6.c1 rfl rfl (by show 7 < 9; decide) (by omega) ⟨m0, u6, hu6, hge⟩ fun D hD => ?_
    have sD : Same H6 (upd H6 D (.lst es)) := fun b o z => by rw [upd_ne (ne_of_none z hD)]; exact z
    -- four more
    refine ⟨_, rfl, by show 4 ≤ 16777216; decide, fun l hll => ?_⟩
    have sl : Same (upd H6 D (.lst es)) (upd (upd H6 D (.lst es)) l (.lst [V.str y, .str "", .str "# b", .str "?"])) := fun b o z => by rw [upd_ne (ne_of_none z hll)]; exact z
    obtain ⟨H7, hH7⟩ : ∃ H7, H7 = upd (upd H6 D (.lst es)) l (.lst [V.str y, .str "", .str "# b", .str "?"]) := ⟨_, rfl⟩
    have L7 : LW cCo H7 x n e x2 n2 e2 m0 es := by
      rw [hH7]
      exact (L6.same sD).same sl
    have d7 : H7 D = some (.lst es) := by
      rw [hH7]
      exact sl _ _ upd_same
    have l7 : H7 l = some (.lst [V.str y, .str "", .str "# b", .str "?"]) := by rw [hH7, upd_same]
    rw [← hH7]
    have four : ∀ (i : Nat) (v : V), [V.str y, .str "", .str "# b", .str "?"][i]? = some v → ∃ z, v = V.str z ∧ lineOk z := fun i v hv => by
      have := List.mem_of_getElem? hv
      simp only [List.mem_cons, List.not_mem_nil, or_false] at this
      rcases this with rfl | rfl | rfl | rfl
      · exact ⟨_, rfl, hyl⟩
      · exact ⟨_, rfl, line_all _ (by simp [allL])⟩
      · exact ⟨_, rfl, line_all _ (by simp [allL])⟩
      · exact ⟨_, rfl, line_all _ (by simp [allL])⟩
    refine ⟨l, rfl, ⟨_, SqL.of l7⟩, for_list (K := K) (a := l) (xs := [V.str y, .str "", .str "# b", .str "?"]) (fun i σ H' => ∃ v, σ = [some (.ref a), some (.ref q), some (.ref x), some (.ref x2), some (.str y), v5, some (.ref D), none, v] ∧ Same H7 H') ⟨none, rfl, Same.refl _⟩ (fun i σ H' _ ⟨_, _, s7⟩ => SqL.of (s7 _ _ l7)) ?_ ?_⟩
    · rintro i v σ H' hi ⟨v8, rfl, s7⟩
      obtain ⟨z, rfl, hz⟩ := four i v hi
      refine ⟨_, rfl, _, rfl, x, n, e, es, z, rfl, hz, (L7.same s7).c1, .inr ⟨hl, fun H8 s8 => ?_⟩⟩
      exact ⟨rfl, _, rfl, iteNS rfl ⟨_, rfl, s7.trans s8⟩⟩
    rintro σ H8 ⟨v8, rfl, s7⟩
    have L8 := L7.same s7
    have d8 := s7 _ _ d7
    obtain ⟨u8, hu8⟩ := L8.mk0
    obtain ⟨⟨dxa, a1⟩, _⟩ := id L8.c1
    obtain ⟨⟨dxb, b1⟩, _⟩ := id L8.c2
    -- len(console) != 300 or .. != kept or len(kept) != 300
    refine ⟨_, rfl, x, dxa, _, rfl, a1, x, n, e, es, rfl, L8.c1, _, rfl, by omega, by omega, rfl, _, rfl, iteNS (by rw [hl]; rfl) ?_⟩
    dsimp only
    refine ne_comp L8.c1 rfl rfl (by show 7 < 9; decide) (by omega) ⟨m0, u8, hu8, hge⟩ fun D2 hD2 => ?_
    have s9 : Same H8 (upd H8 D2 (.lst es)) := fun b o z => by rw [upd_ne (ne_of_none z hD2)]; exact z
    refine ⟨_, rfl, D2, D, es, rfl, rfl, upd_same, s9 _ _ d8, L8.c1.rf, false, rfl, iteF ?_⟩
    obtain ⟨H9, hH9⟩ : ∃ H9, H9 = upd H8 D2 (.lst es) := ⟨_, rfl⟩
    rw [← hH9] at s9 ⊢
    refine ⟨_, rfl, _, es.length, rfl, .inl ⟨_, SqL.of (s9 _ _ d8), rfl⟩, rfl, _, rfl, iteNS (by rw [hl]; rfl) ?_⟩
    have L9 := L8.same s9
    -- console.names() != {} or ..
    refine ⟨_, rfl, x, dxa, _, rfl, s9 _ _ a1, no_names n e, x, n, e, es, rfl, L9.c1, fun q9 hq9 => ?_⟩
    intro d9 hd9
    have nqd : q9 ≠ d9 := fun z => by rw [← z, upd_same] at hd9; cases hd9
    refine ⟨q9, d9, [], [], rfl, rfl, by rw [upd_ne nqd, upd_same], upd_same, rfl, fun p hp => (by cases hp), false, rfl, iteF ?_⟩
    obtain ⟨Ha, hHa⟩ : ∃ Ha, Ha = upd (upd H9 q9 (.dK [])) d9 (.dK []) := ⟨_, rfl⟩
    have sa : Same H9 Ha := fun b o z => by
      rw [hHa, upd_ne (ne_of_none (by rw [upd_ne (ne_of_none z hq9)]; exact z) hd9), upd_ne (ne_of_none z hq9)]
      exact z
    rw [← hHa]
    have La := L9.same sa
    have ba := sa _ _ (s9 _ _ b1)
    refine ⟨_, rfl, x2, dxb, _, rfl, ba, x2, n2, e2, [], rfl, La.c2, _, rfl, by decide, by decide, rfl, _, rfl, iteNS rfl ?_⟩
    obtain ⟨ua, hua⟩ := La.mk0
    dsimp only
    refine ne_comp La.c2 rfl rfl (by show 7 < 9; decide) (by decide) ⟨m0, ua, hua, hge⟩ fun D3 hD3 => ?_
    have sb : Same Ha (upd Ha D3 (.lst [])) := fun b o z => by rw [upd_ne (ne_of_none z hD3)]; exact z
    refine ⟨by show 0 ≤ 16777216; decide, fun l3 hl3 => ?_⟩
    have sc : Same (upd Ha D3 (.lst [])) (upd (upd Ha D3 (.lst [])) l3 (.lst [])) := fun b o z => by rw [upd_ne (ne_of_none z hl3)]; exact z
    refine ⟨D3, l3, [], rfl, rfl, sc _ _ upd_same, upd_same, fun v hv => (by cases hv), false, rfl, iteF ?_⟩
    have Lc := (La.same sb).same sc
    have bc := sc _ _ (sb _ _ ba)
    -- the other console
    refine ⟨_, rfl, _, rfl, x2, n2, e2, [], y, rfl, hyl, Lc.c2, .inl ⟨by decide, fun t' Hd Cd kd => ?_⟩⟩
    refine ⟨rfl, true, rfl, iteT ?_⟩
    obtain ⟨⟨dxc, c1⟩, _⟩ := id Cd
    refine ⟨_, rfl, x2, dxc, _, rfl, c1, x2, n2, e2, _, rfl, Cd, _, rfl, (show (0 : Int) ≤ 1 by decide), (show (1 : Int) < 2 ^ 63 by decide), rfl, true, rfl, iteT ?_⟩
    obtain ⟨⟨dxe, f1⟩, f2, f3, f4⟩ := Lc.c1
    obtain ⟨_, _, g3, _⟩ := Lc.c2
    have Ce : ConAt cCo Hd x n e es := ⟨⟨dxe, kd _ _ (ne_of f1 g3 (by intro z; cases z)) f1⟩, kd _ _ (ne_of f2 g3 (by intro z; cases z)) f2, kd _ _ Lc.ne f3, f4⟩
    obtain ⟨⟨dxf, i1⟩, _⟩ := id Ce
    refine ⟨_, rfl, x, dxf, _, rfl, i1, x, n, e, es, rfl, Ce, _, rfl, by omega, by omega, rfl, ?_⟩
    rw [hl]
    exact hQ _
end
end K98

set_option Elab.async false
set_option linter.all false
set_option maxRecDepth 100000
set_option maxHeartbeats 2000000
/-! HK: a Hook over the objects that some names lead to: facts, defs, errors' __init__, dicts with text keys. -/
namespace DL
open PySem PySem.Spec PyProof.Rows L2
abbrev AlZ : Type := He.AlD × List FnE × Bool × List (Option (List (Option (Str × Int))))
/-- names to begin with; how far to go; what is asked -/
structure Ask where
  ns : List Str
  deep : Nat
  fa : List He.Fa
  fn : List He.DefD
  fe : List EIn
  ex : PySem.W.Frag → Bool
  ts : List He.Tab
def growZ (g : Addr → Option Obj) : Nat → List Addr → List Addr
  | 0, as => as
  | n + 1, as => growZ g n (He.growD g as)
def adZ (q : Ask) (g : Addr → Option Obj) : List Addr := mainGlobals :: cStatics :: growZ g q.deep (q.ns.map fun x => He.ga (He.frG g [mainGlobals]) x)
def obsZ (q : Ask) (K : PySem.W.Frag) : AlZ := (He.obsD q.fa q.fn K, q.fe.map (fnE K), q.ex K, q.ts.map fun t => He.dicW K (t.1 K))
def valZ (q : Ask) (w : World) : AlZ := (He.valD q.fn, q.fe.map EIn.val, true, q.ts.map fun t => some (He.keysIn w.params t.2))
def SaysZ (q : Ask) (w : World) (K : PySem.W.Frag) : Prop := obsZ q K = valZ q w
def obsZG (q : Ask) (g : Addr → Option Obj) : AlZ := obsZ q (He.frG g (adZ q g))
def hookZ (q : Ask) : PySem.W.Hook where
  α := AlZ
  obs := fun s => obsZG q s.heap.get?
  val := fun w => valZ q w
  says := fun w h => ∃ K : PySem.W.Frag, K.In h ∧ SaysZ q w K
  of := fun _ _ e => ⟨_, He.frG_in, e⟩
  keeps := fun _ _ _ hh k => by
    obtain ⟨K, hK, c⟩ := hh
    exact ⟨K, PySem.W.Frag.In.keeps hK k, c⟩
theorem obsZG_eq {q : Ask} {g : Addr → Option Obj} {s : Shared} (h : ∀ a, g a = s.heap.get? a) : obsZG q g = (hookZ q).obs s := by
  have e : g = s.heap.get? := funext h
  rw [e]
  rfl
section
variable {q : Ask} {w : World} {K : PySem.W.Frag}
theorem SaysZ.d (c : SaysZ q w K) : He.SaysD q.fa q.fn K := congrArg (fun z : AlZ => z.1) c
theorem SaysZ.more (c : SaysZ q w K) : q.ex K = true := congrArg (fun z : AlZ => z.2.2.1) c
theorem SaysZ.errs (c : SaysZ q w K) (i : Nat) {e : EIn} (h : q.fe[i]? = some e := by rfl) : fnE K e = e.val := by
  have h1 : q.fe.map (fnE K) = q.fe.map EIn.val := congrArg (fun z : AlZ => z.2.1) c
  have h2 : (q.fe.map (fnE K))[i]? = (q.fe.map EIn.val)[i]? := by rw [h1]
  rw [List.getElem?_map, List.getElem?_map, h] at h2
  exact Option.some.inj h2
theorem SaysZ.tab (c : SaysZ q w K) (i : Nat) {t : He.Tab} (h : q.ts[i]? = some t := by rfl) : ∃ es n, KDict K w (t.1 K) es n := by
  have e : q.ts.map (fun t => He.dicW K (t.1 K)) = q.ts.map fun t => some (He.keysIn w.params t.2) := congrArg (fun z : AlZ => z.2.2.2) c
  have e2 : (q.ts.map fun t => He.dicW K (t.1 K))[i]? = (q.ts.map fun t => some (He.keysIn w.params t.2))[i]? := by rw [e]
  rw [List.getElem?_map, List.getElem?_map, h] at e2
  exact He.dicW_ok (Option.some.inj e2)
end
/-! ### a run in three -/
theorem map3 {σ α β γ : Type} {x : Option σ} {f : σ → α} {g : σ → β} {h : σ → γ} {a : α} {b : β} {c : γ} (h1 : x.map f = some a) (h2 : x.map g = some b) (h3 : x.map h = some c) : x.map (fun s => (f s, g s, h s)) = some (a, b, c) := by
  cases x with
  | none => cases h1
  | some s =>
    cases h1
    cases h2
    cases h3
    rfl
end DL

set_option Elab.async false
set_option linter.all false
set_option maxRecDepth 100000
set_option maxHeartbeats 0
namespace K98
open PySem PySem.Spec PyProof.Rows L2 DL
def nm0 : List PySem.Str := ["_wall", "__name__", "Fault", "Malformed", "Refused", "NoText", "PRIMES", "is_integer", "is_small_prime", "inverse", "factors", "empty_row", "made_step", "step", "product", "row_of", "overlaps", "failing_overlap", "is_consistent", "Group", "MOST_GENERATORS", "MOST_ORDER_pres", "DIGITS_pres", "are_primes", "is_row_of", "are_powers", "are_conjugates", "product_of", "Presentation", "read_number"]
def nm1 : List PySem.Str := ["read_number_pres", "read_rows", "read_presentation", "MOST_ORDER_build", "MOST_PRIME", "check_order", "check_order_build", "unit_row", "made", "made_build", "check_presentation", "order_of", "joined", "joined_build", "direct", "at_place", "places_of", "sifted", "with_item_one", "consequences", "placed", "canonical", "induced", "check_elements", "Subgroup", "whole", "trivial", "generated", "is_normal", "normal_closure"]
def nm2 : List PySem.Str := ["representative", "check_items", "orbit", "class_of", "conjugacy_classes", "conjugator", "MOST_ORDER_maps", "MOST_HOMS", "row_value", "fits_at", "check_order_maps", "keeps_order", "walk", "gathered", "homs", "scaled", "dot", "cleared", "reduced", "span", "kernel", "turned", "relations", "solve", "unsolved", "Quotient", "is_elementary", "check_part", "prime_of", "word_value"]
def nm3 : List PySem.Str := ["sides", "joined_complement", "lifts", "values_at", "system", "of_solution", "complement", "combination", "commutators", "derived_series", "lower_central_series", "invariants_at", "abelian_invariants", "minimal_normal", "chief_series", "chief_factors", "check_primes", "step_prime", "parted", "hall", "consistency_paper", "words_to", "member_paper", "complement_paper", "hall_paper", "conjugate_paper", "LETTERS", "DIGITS_sheet", "SHAPES", "MOST_SIGNS"]
def nm4 : List PySem.Str := ["MOST_LETTERS", "is_line", "read_run", "read_number_sheet", "read_row", "read_part", "read_line", "MAKING", "PAPERS", "YES", "Reply", "named", "element", "row_text", "made_replies", "paper_of", "sequence_order", "paper_text", "spaced", "about", "carried_out", "reply_to", "defined", "Console", "_law_state", "_law_take", "_law_enter"]
def loose : List PySem.Str := nm0 ++ nm1 ++ nm2 ++ nm3 ++ nm4
def ns0 : List PySem.Str := ["is_line", "read_line", "carried_out", "reply_to", "defined", "_law_state", "_law_take", "_law_enter", "law", "NoText", "Refused", "Malformed", "Reply", "Console", "SHAPES", "MAKING"]
def fa : List He.Fa := [.free "len", .free "ord", .free "isinstance", .free "str", .free "iter", .free "dict", .free "range", .free "int", .free "abs", .free "super", .int "MOST_SIGNS" 2000, .glo "is_line", .glo "read_line", .glo "carried_out", .glo "reply_to", .glo "defined", .glo "_law_state", .glo "_law_take", .glo "_law_enter", .glo "law", .glo "NoText", .glo "Refused", .glo "Malformed", .glo "Reply", .glo "Console", .glo "SHAPES", .glo "MAKING", .exm "NoText" "Malformed" false, .exm "NoText" "Refused" false, .cls "Reply", .cls "Console", .mkr "Reply", .mkr "Console", .noat "Reply" "kind", .noat "Reply" "text", .noat "Reply" "data", .noat "Console" "_most", .noat "Console" "_names", .noat "Console" "_entries", .meth "Console" "__len__", .meth "Console" "__iter__", .meth "Console" "enter", .meth "Console" "names"]
def d_is_line : He.DefD := ⟨("is_line", none), "is_line", "is_line", defArgs (top 138), defBody (top 138), defScope (top 138), [], []⟩
def d_read_line : He.DefD := ⟨("read_line", none), "read_line", "read_line", defArgs (top 144), defBody (top 144), defScope (top 144), [], []⟩
def d_carried_out : He.DefD := ⟨("carried_out", none), "carried_out", "carried_out", defArgs (top 160), defBody (top 160), defScope (top 160), [], []⟩
def d_reply_to : He.DefD := ⟨("reply_to", none), "reply_to", "reply_to", defArgs (top 161), defBody (top 161), defScope (top 161), [], []⟩
def d_defined : He.DefD := ⟨("defined", none), "defined", "defined", defArgs (top 162), defBody (top 162), defScope (top 162), [], []⟩
def d__law_state : He.DefD := ⟨("_law_state", none), "_law_state", "_law_state", defArgs (top 166), defBody (top 166), defScope (top 166), [], []⟩
def d__law_take : He.DefD := ⟨("_law_take", none), "_law_take", "_law_take", defArgs (top 167), defBody (top 167), defScope (top 167), [], []⟩
def d__law_enter : He.DefD := ⟨("_law_enter", none), "_law_enter", "_law_enter", defArgs (top 168), defBody (top 168), defScope (top 168), [], []⟩
def d_law : He.DefD := ⟨("law", none), "law", "law", defArgs (top 169), defBody (top 169), defScope (top 169), [], []⟩
def d_rp : He.DefD := ⟨("Reply", some "__init__"), "__init__", "Reply.__init__", defArgs sRp, defBody sRp, defScope sRp, [.str "", .adr (He.dflAt ("Reply", some "__init__") 1)], []⟩
def d_ci : He.DefD := ⟨("Console", some "__init__"), "__init__", "Console.__init__", defArgs sCI, defBody sCI, defScope sCI, [], [("most", .int 300)]⟩
def d_cl : He.DefD := ⟨("Console", some "__len__"), "__len__", "Console.__len__", defArgs sCL, defBody sCL, defScope sCL, [], []⟩
def d_ct : He.DefD := ⟨("Console", some "__iter__"), "__iter__", "Console.__iter__", defArgs sCT, defBody sCT, defScope sCT, [], []⟩
def d_ce : He.DefD := ⟨("Console", some "enter"), "enter", "Console.enter", defArgs sCE, defBody sCE, defScope sCE, [], []⟩
def d_cn : He.DefD := ⟨("Console", some "names"), "names", "Console.names", defArgs sCN, defBody sCN, defScope sCN, [], []⟩
def fn : List He.DefD := [d_is_line, d_read_line, d_carried_out, d_reply_to, d_defined, d__law_state, d__law_take, d__law_enter, d_law, d_rp, d_ci, d_cl, d_ct, d_ce, d_cn]
def e_NoText : EIn := ⟨"NoText", "at", defArgs (sub (top 5) 0), defBody (sub (top 5) 0), defScope (sub (top 5) 0)⟩
def e_Refused : EIn := ⟨"Refused", "reason", defArgs (sub (top 4) 0), defBody (sub (top 4) 0), defScope (sub (top 4) 0)⟩
def fe : List EIn := [e_NoText, e_Refused]
def exB (K : PySem.W.Frag) : Bool := fnEB P0 K e_NoText && (clsEB K "NoText" && (moreEB K "NoText" "at" && (fnEB P0 K e_Refused && (clsEB K "Refused" && (moreEB K "Refused" "reason" && (He.tupB K "MAKING" [.str "let", .str "direct", .str "quotient"] && He.eqO (PySem.W.nsIn K (He.ga K "SHAPES") "?") (some none)))))))
def keys0 : List PySem.Str := ["direct", "quotient", "show", "consistent", "times", "order", "derived", "lower", "invariants", "chief", "classes", "homs", "member", "complement", "hall", "conjugate"]
def askK : Ask := ⟨ns0, 3, fa, fn, fe, exB, [(fun K => He.ga K "SHAPES", keys0)]⟩
abbrev R : PySem.W.OpenRow := PySem.W.OpenLaw.row PySem.Challenge.rw_chieflayers_k98_lines_as_many_as_told
abbrev qv : Program := PySem.W.view R.prog [169]
abbrev hk : PySem.W.Hook := hookZ askK
def ob (s : PySem.W.SharedT) : AlZ := obsZG askK (HandSHeadRun.getT s)
theorem ob_eq (s : PySem.W.SharedT) : ob s = hk.obs s.abs := obsZG_eq (HandSHeadRun.getT_eq s)
def M0 : Nat := 30000
end K98

set_option Elab.async false
set_option linter.all false
set_option maxRecDepth 100000
set_option maxHeartbeats 0
namespace K98
open PySem PySem.Spec PyProof.Rows L2 DL HandSHeadRun
theorem runA_false (w0 : World) : let w := w0.withFollow "special-get-raises" false; ∀ os : OsState, (endF (stepQ (denQ tabQ) R.prog w) M0 R.prog w os).map (fun s => looksF R.prog (PySem.W.boot_heap w.params) s.abs) = some true := by
  intro w os
  kernel_rfl
end K98

set_option Elab.async false
set_option linter.all false
set_option maxRecDepth 100000
set_option maxHeartbeats 0
namespace K98
open PySem PySem.Spec PyProof.Rows L2 DL HandSHeadRun
theorem runA_true (w0 : World) : let w := w0.withFollow "special-get-raises" true; ∀ os : OsState, (endF (stepQ (denQ tabQ) R.prog w) M0 R.prog w os).map (fun s => looksF R.prog (PySem.W.boot_heap w.params) s.abs) = some true := by
  intro w os
  kernel_rfl
end K98

set_option Elab.async false
set_option linter.all false
set_option maxRecDepth 100000
set_option maxHeartbeats 0
namespace K98
open PySem PySem.Spec PyProof.Rows L2 DL HandSHeadRun
theorem runB_false (w0 : World) : let w := w0.withFollow "special-get-raises" false; ∀ os : OsState, (endF (stepQ (denQ tabQ) R.prog w) M0 R.prog w os).map (fun s => seenQ qv loose (importedModules R.prog.main.body) (fun s => PySem.W.xlAt qv [] s && PySem.W.recOk R.toRowW.records s) s.abs) = some (PySem.W.openGood qv loose) := by
  intro w os
  kernel_rfl
end K98

set_option Elab.async false
set_option linter.all false
set_option maxRecDepth 100000
set_option maxHeartbeats 0
namespace K98
open PySem PySem.Spec PyProof.Rows L2 DL HandSHeadRun
theorem runB_true (w0 : World) : let w := w0.withFollow "special-get-raises" true; ∀ os : OsState, (endF (stepQ (denQ tabQ) R.prog w) M0 R.prog w os).map (fun s => seenQ qv loose (importedModules R.prog.main.body) (fun s => PySem.W.xlAt qv [] s && PySem.W.recOk R.toRowW.records s) s.abs) = some (PySem.W.openGood qv loose) := by
  intro w os
  kernel_rfl
end K98

set_option Elab.async false
set_option linter.all false
set_option maxRecDepth 100000
set_option maxHeartbeats 0
namespace K98
open PySem PySem.Spec PyProof.Rows L2 DL HandSHeadRun
theorem runC_false (w0 : World) : let w := w0.withFollow "special-get-raises" false; ∀ os : OsState, (endF (stepQ (denQ tabQ) R.prog w) M0 R.prog w os).map ob = some (hk.val w) := by
  intro w os
  kernel_rfl
end K98

set_option Elab.async false
set_option linter.all false
set_option maxRecDepth 100000
set_option maxHeartbeats 0
namespace K98
open PySem PySem.Spec PyProof.Rows L2 DL HandSHeadRun
theorem runC_true (w0 : World) : let w := w0.withFollow "special-get-raises" true; ∀ os : OsState, (endF (stepQ (denQ tabQ) R.prog w) M0 R.prog w os).map ob = some (hk.val w) := by
  intro w os
  kernel_rfl
end K98

set_option Elab.async false
set_option linter.all false
set_option maxRecDepth 100000
set_option maxHeartbeats 4000000
/-! W98: what the head tells, for the walk. -/
namespace K98
open PySem PySem.Spec PyProof.Rows L2 ItX DL
theorem facts {w : World} {K : PySem.W.Frag} {h : Heap} {mg : Str → Option Value} {f : Addr} (X : K.In h) (G : h.Ns mainGlobals mg) (hfa : mg ("law" : Str) = some (.ref f)) (c : SaysZ askK w K) :
    ∃ fd : FuncData, (∀ (s : Shared) (v : Value), BindsTo s fd ⟨[v], []⟩ [("script", v)]) ∧ ∀ base : Heap, K.In base → base.Ns mainGlobals mg → FnOk P0 w K mg base CX0 7 f fd ["script"] (spLaw K) := by
  have d := c.d
  have more := c.more
  obtain ⟨m1, more⟩ := He.ba (show (fnEB P0 K e_NoText && (clsEB K "NoText" && (moreEB K "NoText" "at" && (fnEB P0 K e_Refused && (clsEB K "Refused" && (moreEB K "Refused" "reason" && (He.tupB K "MAKING" [.str "let", .str "direct", .str "quotient"] && He.eqO (PySem.W.nsIn K (He.ga K "SHAPES") "?") (some none)))))))) = true from more)
  obtain ⟨m2, more⟩ := He.ba more
  obtain ⟨m3, more⟩ := He.ba more
  obtain ⟨m4, more⟩ := He.ba more
  obtain ⟨m5, more⟩ := He.ba more
  obtain ⟨m6, more⟩ := He.ba more
  obtain ⟨m7, m8⟩ := He.ba more
  have eN : PySem.ErrX.ErrTxt P0 K mg "NoText" "NoText.__init__" "at" (He.ga K "NoText") (He.fAd K ("NoText", some "__init__")) :=
    errTxt_of (e := e_NoText) X G rfl rfl rfl (.txt _ _ _) (fun _ => ⟨_, rfl⟩) (fun _ _ _ _ _ _ _ _ => rfl) ⟨by decide, by decide, by decide, by decide⟩ (by decide +kernel) (c.errs 0) m1 m2 m3 (d.fact 20 (f := .glo "NoText") rfl) (d.fact 9 (f := .free "super") rfl)
  have eR : PySem.ErrX.ErrTxt P0 K mg "Refused" "Refused.__init__" "reason" (He.ga K "Refused") (He.fAd K ("Refused", some "__init__")) :=
    errTxt_of (e := e_Refused) X G rfl rfl rfl (.par _) (fun _ => ⟨_, rfl⟩) (fun _ _ _ _ _ _ _ _ => rfl) ⟨by decide, by decide, by decide, by decide⟩ (by decide +kernel) (c.errs 1) m4 m5 m6 (d.fact 21 (f := .glo "Refused") rfl) (d.fact 9 (f := .free "super") rfl)
  obtain ⟨es, n, D⟩ := c.tab 0
  have T : Tx w K mg (He.ga K "NoText") (He.fAd K ("NoText", some "__init__")) (He.ga K "Malformed") (He.ga K "Refused") (He.fAd K ("Refused", some "__init__")) (He.ga K "Reply") (He.ga K "Console") :=
    { b_len := He.free_ok X G (d.fact 0 (f := .free "len") rfl), b_ord := He.free_ok X G (d.fact 1 (f := .free "ord") rfl), b_isi := He.free_ok X G (d.fact 2 (f := .free "isinstance") rfl), b_str := He.free_ok X G (d.fact 3 (f := .free "str") rfl), b_iter := He.free_ok X G (d.fact 4 (f := .free "iter") rfl)
      b_dict := He.free_ok X G (d.fact 5 (f := .free "dict") rfl), b_range := He.free_ok X G (d.fact 6 (f := .free "range") rfl), b_int := He.free_ok X G (d.fact 7 (f := .free "int") rfl), b_abs := He.free_ok X G (d.fact 8 (f := .free "abs") rfl)
      k_signs := He.int_ok X G (d.fact 10 (f := .int "MOST_SIGNS" 2000) rfl), shapes := ⟨_, es, n, He.glo_ok X G (d.fact 25 (f := .glo "SHAPES") rfl), D, He.eqO_ok m8⟩, making := ⟨_, He.glo_ok X G (d.fact 26 (f := .glo "MAKING") rfl), fun H => He.tupB_ok m7 H⟩
      eN := eN, eR := eR, gMa := He.glo_ok X G (d.fact 22 (f := .glo "Malformed") rfl), nm := He.exm_ok (d.fact 27 (f := .exm "NoText" "Malformed" false) rfl), nr := He.exm_ok (d.fact 28 (f := .exm "NoText" "Refused" false) rfl)
      gRp := He.glo_ok X G (d.fact 23 (f := .glo "Reply") rfl), gCo := He.glo_ok X G (d.fact 24 (f := .glo "Console") rfl), clRp := He.cls_ok (d.fact 29 (f := .cls "Reply") rfl), rKind := He.noat_ok (d.fact 33 (f := .noat "Reply" "kind") rfl), rText := He.noat_ok (d.fact 34 (f := .noat "Reply" "text") rfl), rData := He.noat_ok (d.fact 35 (f := .noat "Reply" "data") rfl)
      clCo := He.cls_ok (d.fact 30 (f := .cls "Console") rfl), cMost := He.noat_ok (d.fact 36 (f := .noat "Console" "_most") rfl), cNames := He.noat_ok (d.fact 37 (f := .noat "Console" "_names") rfl), cEnt := He.noat_ok (d.fact 38 (f := .noat "Console" "_entries") rfl) }
  obtain ⟨fd0, F0⟩ := d.def_ 0 (d := d_is_line) rfl
  obtain ⟨fd1, F1⟩ := d.def_ 1 (d := d_read_line) rfl
  obtain ⟨fd2, F2⟩ := d.def_ 2 (d := d_carried_out) rfl
  obtain ⟨fd3, F3⟩ := d.def_ 3 (d := d_reply_to) rfl
  obtain ⟨fd4, F4⟩ := d.def_ 4 (d := d_defined) rfl
  obtain ⟨fd5, F5⟩ := d.def_ 5 (d := d__law_state) rfl
  obtain ⟨fd6, F6⟩ := d.def_ 6 (d := d__law_take) rfl
  obtain ⟨fd7, F7⟩ := d.def_ 7 (d := d__law_enter) rfl
  obtain ⟨fd8, F8⟩ := d.def_ 8 (d := d_law) rfl
  obtain ⟨fd9, F9⟩ := d.def_ 9 (d := d_rp) rfl
  obtain ⟨fd10, F10⟩ := d.def_ 10 (d := d_ci) rfl
  obtain ⟨fd11, F11⟩ := d.def_ 11 (d := d_cl) rfl
  obtain ⟨fd12, F12⟩ := d.def_ 12 (d := d_ct) rfl
  obtain ⟨fd13, F13⟩ := d.def_ 13 (d := d_ce) rfl
  obtain ⟨fd14, F14⟩ := d.def_ 14 (d := d_cn) rfl
  have M9 := He.mkr_ok (d.fact 31 (f := .mkr "Reply") rfl)
  have M10 := He.mkr_ok (d.fact 32 (f := .mkr "Console") rfl)
  have e := hfa.symm.trans (He.glo_ok X G (d.fact 19 (f := .glo "law") rfl))
  cases e
  have b := FunD.bindsA (ps := ["script"]) F8 fun _ _ _ _ _ _ us hl => match us, hl with | [_], _ => rfl
  refine ⟨fd8, fun s v => b s [v] rfl, fun base _ _ => ?_⟩
  have g0 := He.glo_ok X G (d.fact 11 (f := .glo "is_line") rfl)
  have g1 := He.glo_ok X G (d.fact 12 (f := .glo "read_line") rfl)
  have g2 := He.glo_ok X G (d.fact 13 (f := .glo "carried_out") rfl)
  have g3 := He.glo_ok X G (d.fact 14 (f := .glo "reply_to") rfl)
  have g4 := He.glo_ok X G (d.fact 15 (f := .glo "defined") rfl)
  have g5 := He.glo_ok X G (d.fact 16 (f := .glo "_law_state") rfl)
  have g6 := He.glo_ok X G (d.fact 17 (f := .glo "_law_take") rfl)
  have g7 := He.glo_ok X G (d.fact 18 (f := .glo "_law_enter") rfl)
  have G3 := ok_rt (base := base) T F3 F9 M9 F2 g2 F1 g1 F0 g0
  have G4 := ok_df (base := base) T F4 F1 g1 F0 g0
  have G13 := ok_ce (base := base) T F13 G3 g3 F3 G4 g4 F4
  have G7 := ok_le (base := base) T F7 G13 F13 (He.meth_ok (d.fact 41 (f := .meth "Console" "enter") rfl))
  exact ok_law T F8 F5 g5 F6 g6 G7 F7 g7 F10 M10 F11 (He.meth_ok (d.fact 39 (f := .meth "Console" "__len__") rfl)) F12 (He.meth_ok (d.fact 40 (f := .meth "Console" "__iter__") rfl)) F14 (He.meth_ok (d.fact 42 (f := .meth "Console" "names") rfl))
end K98

set_option Elab.async false
set_option linter.all false
set_option maxRecDepth 100000
set_option maxHeartbeats 0
namespace K98
open PySem PySem.Spec PyProof.Rows L2 ItX DL
theorem run (w : World) : HandSHeadRun.RunEq R qv hk ob M0 loose w :=
  PySem.W.byRow2 "special-get-raises" (P := fun w => HandSHeadRun.RunEq R qv hk ob M0 loose w) (fun w os => map3 (runA_false w os) (runB_false w os) (runC_false w os)) (fun w os => map3 (runA_true w os) (runB_true w os) (runC_true w os)) w
end K98
open PySem PySem.W PySem.Calls PyProof.Rows
theorem PySem.Challenge.cw_chieflayers_k98_lines_as_many_as_told_holds : PySem.Challenge.rw_chieflayers_k98_lines_as_many_as_told.Holds := by
  w_on; o_law
  refine HandSHeadRun.head_any (r := OpenLaw.row PySem.Challenge.rw_chieflayers_k98_lines_as_many_as_told) (q := view (OpenLaw.row PySem.Challenge.rw_chieflayers_k98_lines_as_many_as_told).prog [169]) (H := K98.hk) (ob := K98.ob) (M := K98.M0) (loose := K98.loose) (d := HandSHeadRun.topDef (OpenLaw.row PySem.Challenge.rw_chieflayers_k98_lines_as_many_as_told).prog 169) (kwd := []) K98.ob_eq
    (by kernel_rfl) (fun s => by kernel_rfl) K98.run (by kernel_rfl) (by kernel_rfl) (by kernel_rfl) (by rfl) (by first | assumption | decide +kernel) (by decide +kernel) ⟨rfl, rfl, rfl, rfl, rfl, by decide +kernel⟩ ?hw ?hc
  case hw => w_witness2
  case hc =>
    refine L2.walk_ofE (l := PySem.Challenge.rw_chieflayers_k98_lines_as_many_as_told) (n := 63) (k := 7) (x := "script") (CX := L2.CX0) rfl (by decide) (by kernel_rfl) ⟨rfl, by decide, by decide⟩ ?F (fun _ _ _ _ z => z)
    intro w mg fa h Y G hmg0
    obtain ⟨K, KX, c⟩ := Y
    have hmg : mg ("law" : PySem.Str) = some (.ref fa) := by
      have e : (HandSHeadRun.topDef (OpenLaw.row PySem.Challenge.rw_chieflayers_k98_lines_as_many_as_told).prog 169).name = ("law" : PySem.Str) := by kernel_rfl
      rw [← e]
      exact hmg0
    obtain ⟨fd, hb, hF⟩ := K98.facts KX G hmg c
    exact ⟨K, fd, K98.spLaw K, KX, hb, fun H a ns hl _ hS => ⟨a, ns, rfl, hS, fun _ => rfl⟩, hF⟩

