import PyProof.Rows.All
import Wide.All
import OpenK.AllK
import Wide.FinOn
import PySem.Challenge.RW_viewloom_k19_whole_expressions
import PyProof.EqAt
import PyProof.EqKinds
import PyProof.TupleCall
import KE.KExcSuper
import HandS.Base
import HandS.Call
import HandS.List
import HandS.Ends
import HandS.Exc
import HandS.TryOnly
import HandS.ExcOwn
import KE.GoesRaise
import HandS.Comp
import HandS.ForMost
import HandS.IsInst
import HandS.DictComp
import HandS.WordsExc
import HandS.CallSlots
import HandS.CallLocal
import HandS.Walk
import HandS.Wide
import HandS.NoneIn
import HandS.RaiseMore
import HandS.Text
import KE.KExcIs
import KE.KIsAll
import PyProof.ReprRoads
import PyProof.ReprBulk
import HandS.EndBits
import KE.OsGo
set_option Elab.async false
set_option linter.all false
set_option maxRecDepth 100000
set_option maxHeartbeats 4096000
/-! An own error over an own class over ValueError: __init__(self, message): super().__init__(message); self.message = message. -/
namespace PySem
namespace FltX
open PySem.W PySem.Calls PyProof.Rows PySem.HandSPX
def iA : Arguments := { posonlyargs := [], args := [{ arg := "self", annotation := none, pos := ⟨6, 17, 6, 21⟩ }, { arg := "message", annotation := none, pos := ⟨6, 23, 6, 30⟩ }], vararg := none, kwonlyargs := [], kw_defaults := [], kwarg := none, defaults := [] }
def iB : List Stmt :=
  [.Expr (.Call (.Attribute (.Call (.Name "super" ⟨7, 8, 7, 13⟩) [] [] ⟨7, 8, 7, 15⟩) "__init__" ⟨7, 8, 7, 24⟩) [.Name "message" ⟨7, 25, 7, 32⟩] [] ⟨7, 8, 7, 33⟩) ⟨7, 8, 7, 33⟩,
   .Assign [.Attribute (.Name "self" ⟨8, 8, 8, 12⟩) "message" ⟨8, 8, 8, 20⟩] (.Name "message" ⟨8, 23, 8, 30⟩) ⟨8, 8, 8, 30⟩]
def iS : Scope := { kind := .function, names := [(PySem.Str.ofString "self", .local), (PySem.Str.ofString "message", .local), (PySem.Str.ofString "__class__", .free), (PySem.Str.ofString "super", .globalImplicit)], isGenerator := false, isCoroutine := false, more := [] }
/-- what the written part says of the class at C, of its __init__ at fI -/
structure FltTxt (prog : Program) (K : Frag) (mg : Str → Option Value) (C fI : Addr) : Prop where
  gC : mg "Fault" = some (.ref C)
  cls : ∃ nm q N bs bm sn sub ab col dd k0 k1 k2 k3 k5, K.lookup C = some (excClassObj nm q C N bs bm true sn sub ab col dd k0 k1 k2 k3 k5 "ValueError.__new__") ∧ refsVE bm = true ∧
    alongIn K "__init__" (((Value.ref C :: bm).dropWhile (· != .ref C)).drop 1) = some (some (.builtin "ValueError.__init__"))
  sa : findIn K (.ref C) "__setattr__" = some (some (.builtin "object.__setattr__"))
  ga : findIn K (.ref C) "__getattribute__" = some (some (.builtin "BaseException.__getattribute__"))
  gg : findIn K (.ref C) "__getattr__" = some none
  noN : findIn K (.ref C) "message" = some none
  iC : findIn K (.ref C) "__init__" = some (some (.ref fI))
  tC : typeIn K (.ref fI) = some (.type "function")
  kC : keepIn K (.ref C) = true
  exC : subIn K (.ref C) (.type "BaseException") = some true
  veC : subIn K (.ref C) (.type "ValueError") = some true
  tyC : typeIn K (.ref C) = some (.type "type")
  hdC : hasDictIn K C = true
  self : mroIn K C (Value.ref C) = some true
  opq : nsIn K cStatics "thirdparty.any" = some none
  sup : nsIn K mainGlobals "super" = some none
  supM : mg "super" = none
  top : (prog.main.scope.names.lookup ("super" : Str)).isSome = false
  fn : ∃ (oc : Value) (od : Option Addr) (kV doc pm : Value) (an : Option Addr) (cda cc : Addr) (ct : Value) (osl : Array (Option Value)) ,
    K.lookup fI = some ⟨oc, od, .func (ksFn "__init__" "Fault.__init__" iA iB iS .none kV doc pm an (.ref cda) ct cc), osl⟩ ∧ codeIn K (.ref cda) "Fault.__init__" = true ∧
    (∃ ccl cdd vs ccs file tf, K.lookup cda = some ⟨ccl, cdd, .fields vs, ccs⟩ ∧ vs[2]? = some (.str file tf) ∧ ((prog.main.file : Str) == file) = true) ∧
    (∃ cl cld csl, K.lookup cc = some ⟨cl, cld, .cell (some (.ref C)), csl⟩)
theorem one_size (v : Value) : [v].length ≤ sizeLine := by
  rw [sizeLine_eq]
  exact (by decide : 1 ≤ 16777216)
theorem kept_but {K : Frag} {h h' : Heap} {x : Addr} (X : K.In h) (hx : K.lookup x = none) (k : ∀ b o, b ≠ x → h.get? b = some o → h'.get? b = some o) : K.In h' := fun a o e =>
  k a o (fun z => by rw [z, hx] at e; cases e) (X a o e)
/-- what __init__ leaves of a fresh exception at x -/
structure InitEnd (h h' : Heap) (x C dx : Addr) (v : Value) : Prop where
  keep : ∀ b o, b ≠ x → h.get? b = some o → h'.get? b = some o
  obj : ∃ t1, h'.get? x = some { cls := .ref C, dict := some dx, data := .fields #[.ref t1, .none, .none, .none, .bool false, .none] }
  dbig : h.objs.size ≤ dx
  dne : dx ≠ x
  ns : h'.Ns1 dx (fun y => if y = "message" then some v else none)
/-- a made one -/
structure OwnMade (h h' : Heap) (e C d : Addr) (v : Value) : Prop where
  keep : ∀ b o, h.get? b = some o → h'.get? b = some o
  new : h.objs.size ≤ e
  obj : ∃ oe vs, h'.get? e = some oe ∧ oe.cls = .ref C ∧ oe.dict = some d ∧ oe.data = .fields vs ∧ vs[1]? = some .none
  dbig : h.objs.size ≤ d
  dne : d ≠ e
  ns : h'.Ns1 d (fun y => if y = "message" then some v else none)
section
variable {prog : Program} {w : World} {A : Around} {E : Value → Shared → Prop} {R : Result → Shared → Prop} {s : Shared} {K : Frag} {mg mb : Str → Option Value} {C fI : Addr}
theorem clsIn_of {nm q : Str} {N : Addr} {bs bm : List Value} {sn : List Str} {sub : List Value} {ab : Bool} {col : Option Bool} {dd : Option Addr} {k0 k1 k2 k3 k5 : Option Value}
    (hC : K.lookup C = some (excClassObj nm q C N bs bm true sn sub ab col dd k0 k1 k2 k3 k5 "ValueError.__new__")) :
    clsIn K C = some { name := nm, bases := bs, mro := .ref C :: bm, ns := N, qualname := q, hasDict := true, slotNames := sn, subclasses := sub, abstract := ab, collection := col, hasDel := false } := by
  unfold clsIn; rw [hC] <;> rfl
/-- super().__init__(message) on a fresh one, called -/
theorem call_mw {h : Heap} {g : Array GenState} {d : Drawn} {t : Nat} {os : OsState} {u x t0 : Addr} {rest : List Value} {Q : Value → Shared → Prop} (T : FltTxt prog K mg C fI) (X : K.In h) (hu : h.get? u = some (kxs_mw "ValueError.__init__" x))
    (hx : h.get? x = some (excO C t0)) (hz : rest.length ≤ sizeLine)
    (hq : ∀ h' t1, (∀ b o, b ≠ x → h.get? b = some o → h'.get? b = some o) → h'.get? x = some (excO C t1) → Q .none ⟨h', g, d, t, os⟩) :
    wpAny (model prog w) A (call (Value.ref u) rest) Q E ⟨h, g, d, t, os⟩ := by
  obtain ⟨nm, q, N, bs, bm, sn, sub, ab, col, dd, k0, k1, k2, k3, k5, hC, hbm, _⟩ := T.cls
  have kind : (Value.type "method-wrapper" == Value.type "method" || Value.type "method-wrapper" == Value.type "builtin_function_or_method" || Value.type "method-wrapper" == Value.type "method-wrapper") = true := by decide
  refine wpAny_call (codeAny_of_tree (show wpAny _ A.in1 (callAny (.ref u) ⟨rest, []⟩) _ _ _ from ?_))
  simp only [callAny]; refine wpAny_bind (wpAny_load hu ?_)
  simp only [kxs_mw, kind, if_true]; refine KFB.if_so (by decide) ?_
  refine wpAny_bind (check_bound_init F.excBase_ValueError.toExcCallFacts (X _ _ hC) hx rfl ?_)
  refine wpAny_bind (wpAny_pure (wpAny_pure ⟨plainId_quiet F.excBase_ValueError.init.plain _, codeAny_builtin F.excBase_ValueError.initEntry ?_⟩))
  refine exc_init_tree (cls := .ref C) (t0 := t0) (dv := none) (c2 := .none) (c3 := .none) (b4 := .bool false) hx hz fun h' k e' _ => ?_
  exact hq h' _ k e'
theorem ldC {M : Model} {env : Env} {L : Addr} {m : Str → Option Value} {x : Str} {pos : Pos} {v : Value} {Q : Value → Shared → Prop} (hn : s.heap.Ns L m) (hL : env.locals = L) (hv : m x = some v) (h : Q v s)
    (hk : env.scope.kind = .function := by rfl) (hl : env.kindOf x = some .local := by rfl) (hd : (x == ("__debug__" : Str)) = false := by decide) :
    wpAny M A (eval (.Name x pos) env) Q E s := wpAny_Name (wpAny_loadName_local hk hl (hL.symm ▸ hn) hv h) hd
theorem callWith_mw {M : Model} {i : String} {u x : Addr} {pos : Pos} {env : Env} {a : Expr} {more : List Expr} {Q : Value → Shared → Prop}
    (h : wpAny M A (spliced (backTo pos (starEach (a :: more) env))) (fun us t => KxsAt i u x t.heap ∧ wpAny M A (call (.ref u) us) Q E t) E s)
    (split : starEach (a :: more) env = (false, eval a env) :: starEach more env := by rfl) (flat : (backTo pos (starEach more env)).any (·.1) = false := by rfl) :
    wpAny M A (callWith pos (.ref u) [] (backTo pos (starEach (a :: more) env)) []) Q E s := by
  rw [split] at h ⊢
  exact kxs_callWith (i := i) (x := x) (by show (false || (backTo pos (starEach more env)).any (·.1)) = false; rw [flat]; rfl) (evalArgs_plain h)
theorem flt_init (T : FltTxt prog K mg C fI) {x t0 : Addr} {v : Value} (X : K.In s.heap) (G : s.heap.Ns mainGlobals mg) (B : s.heap.Ns builtinsNs mb) (hB : mb "super" = bootBuiltins "super") (hlim : s.heap.NoLimit)
    (hx : s.heap.get? x = some (excO C t0)) (hnx : K.lookup x = none) (hroom : A.depth < recursionLimit)
    (hq : ∀ h' tk dx, InitEnd s.heap h' x C dx v → R (.ok (.ret .none)) { s with heap := h', toks := tk }) :
    codeAny (model prog w) A (.call (.ref fI) ⟨[.ref x, v], []⟩) R s := by
  obtain ⟨oc, od, kV, doc, pm, an, cda, cc, ct, osl, ho, hcd, ⟨ccl, cdd, vs, ccs, file, tf, hcode, hvs, hfile⟩, cl, cld, csl, hcell⟩ := T.fn
  obtain ⟨nm, q, N, bs, bm, sn, sub, ab, col, dd, k0, k1, k2, k3, k5, hC, hbm, hal⟩ := T.cls
  have hcl := clsIn_of hC
  refine ks_codeAny_call_defAt (binds := [("self", .ref x), ("message", v)]) hroom (X _ _ ho) rfl hlim (codeRec_of X hcd) rfl (BindsTo.of_eq (by first | rfl | with_unfolding_all rfl)) (show ∀ x ∈ iS.names, x.2 ≠ .cell by decide) (fun y hy => ?_) (fun h₁ hn k => ?_) rfl rfl rfl
  · have two : ∀ z ∈ ([("self", .ref x), ("message", v)] : List (Str × Value)), iS.names.lookup z.1 = some .local := by
      intro z hz
      obtain rfl | hz := List.mem_cons.mp hz
      · exact (by decide +kernel : iS.names.lookup ("self" : Str) = some .local)
      · rw [List.mem_singleton.mp hz]
        exact (by decide +kernel : iS.names.lookup ("message" : Str) = some .local)
    exact two y hy
  have hx₁ := k _ _ hx
  have X₁ : K.In h₁ := X.keeps k
  have hxL : s.heap.objs.size ≠ x := Nat.ne_of_gt (Heap.lt_size hx)
  -- super().__init__(message)
  show _root_.PySem.wpAt _ (A.deeper (ksEnv "Fault.__init__" iS s.heap.objs.size fI (.ref cda) cc)) (.func iB (ksEnv "Fault.__init__" iS s.heap.objs.size fI (.ref cda) cc)) (execs iB (ksEnv "Fault.__init__" iS s.heap.objs.size fI (.ref cda) cc)) _ _ _
  refine ks_wpAt_execs_cons (ks_wpAt_Expr_any (ks_wpAt_MethodCall (env := ksEnv "Fault.__init__" iS s.heap.objs.size fI (.ref cda) cc) ?_))
  refine ks_wpAt_super_base (env := ksEnv "Fault.__init__" iS s.heap.objs.size fI (.ref cda) cc) rfl rfl rfl rfl (X₁ _ _ ho) rfl rfl rfl (X₁ _ _ hcode) rfl hvs hfile T.top ?_
  refine ks_loadName_global rfl rfl (loadGlobal_builtin (env := ksEnv "Fault.__init__" iS s.heap.objs.size fI (.ref cda) cc) (G.keeps k) T.supM (B.keeps k) (hB.trans PyProof.Rows.Boot.«super») ⟨rfl, ?_⟩)
  refine wpAny_loadName_free rfl rfl rfl ⟨_, X₁ _ _ hcell, rfl⟩ ?_
  refine wpAny_loadName_local rfl rfl hn rfl ?_
  have hD1 : h₁.get? C = some _ := X₁ _ _ hC
  refine ks_wpAny_isType_cls hD1 rfl ⟨rfl, ?_⟩
  refine ks_wpAny_call_super hD1 rfl hx₁ rfl (fun c e => by cases e) (looks_mroIn X₁ T.self) (fun h2 e2 kk2 => ?_)
  have X₂ : K.In h2 := X₁.keeps kk2
  have hx₂ := kk2 _ _ hx₁
  have hn₂ := hn.keeps kk2
  have I2 : InstAt h2 x (excO C t0) C none := ⟨hx₂, rfl, rfl, trivial⟩
  have hxC : x ≠ C := fun z => by rw [z] at hnx; rw [hC] at hnx; cases hnx
  refine kxs_getMethod kxs_ValueError e2 (looks_opaque X₂ T.opq) (l₀ := .ref C :: bm) (fun A Q E s k q => wpAny_bind ((looks_clsIn X₂ hcl) A _ E s k (wpAny_pure q))) rfl X₂ hal (I2.type.andThen (looks_subIn X₂ T.veC)) hxC (by decide) ?_
  have k3' : ∀ b o, h2.get? b = some o → (h2.push (kxs_mw "ValueError.__init__" x)).get? b = some o := fun b o e => Heap.get?_push_of_some _ e
  have hn₃ := hn₂.keeps k3'
  refine callWith_mw (i := "ValueError.__init__") (x := x) (env := ksEnv "Fault.__init__" iS s.heap.objs.size fI (.ref cda) cc) ?_
  show wpAny _ _ (spliced [(false, eval (.Name "message" ⟨7, 25, 7, 32⟩) (ksEnv "Fault.__init__" iS s.heap.objs.size fI (.ref cda) cc))]) _ _ _
  have hu : (h2.push (kxs_mw "ValueError.__init__" x)).get? h2.objs.size = some (kxs_mw "ValueError.__init__" x) := Heap.get?_push_size _ rfl
  refine spliced_cons (ldC hn₃ rfl rfl (spliced_nil ⟨hu, ?_⟩))
  refine call_mw T (X₂.keeps k3') hu (k3' _ _ hx₂) (one_size v) (fun h4 t1 k4 hx₄ => ?_)
  -- self.message = message
  have X₄ : K.In h4 := kept_but (X₂.keeps k3') hnx k4
  have hn₄ : h4.Ns s.heap.objs.size _ := hn₃.at fun o e => k4 _ o hxL e
  have H5 := hx₄
  refine ks_wpAt_execs_cons (ks_wpAt_Assign_Attr (env := ksEnv "Fault.__init__" iS s.heap.objs.size fI (.ref cda) cc) ?_)
  refine wpAt_of_wpAny ?_
  show wpAny _ _ (eval (.Name "message" ⟨8, 23, 8, 30⟩) (ksEnv "Fault.__init__" iS s.heap.objs.size fI (.ref cda) cc)) _ _ _
  refine ldC (v := v) hn₄ rfl rfl ?_
  show wpAny _ _ (eval (.Name "self" ⟨8, 8, 8, 12⟩) (ksEnv "Fault.__init__" iS s.heap.objs.size fI (.ref cda) cc)) _ _ _
  refine ldC (v := .ref x) hn₄ rfl rfl ?_
  refine set_plain X₄ (ox := excO C t1) (od := none) ⟨hx₄, rfl, rfl, trivial⟩ T.sa ?_
  refine exc_osa X₄ hx₄ hcl (show refsVE (.ref C :: bm) = true from hbm) rfl T.noN (fun h₃ tk₃ dx k₃ dn dne hx₃ hns => ?_)
  refine wpAt_of_wpAny (wpAny_execs_nil ?_)
  have old : ∀ b o, b ≠ x → s.heap.get? b = some o → h₃.get? b = some o := fun b o hb e => k₃ b o hb (k4 b o hb (k3' _ _ (kk2 _ _ (k _ _ e))))
  have big : s.heap.objs.size ≤ dx := by
    obtain ⟨oL, _, _, hL, _⟩ := hn₄
    exact Nat.le_of_lt (Nat.lt_of_lt_of_le (Heap.lt_size hL) dn)
  exact hq h₃ tk₃ dx ⟨old, ⟨t1, hx₃⟩, big, dne, hns⟩
theorem flt_made (T : FltTxt prog K mg C fI) {v : Value} (X : K.In s.heap) (G : s.heap.Ns mainGlobals mg) (B : s.heap.Ns builtinsNs mb) (hB : mb "super" = bootBuiltins "super") (hlim : s.heap.NoLimit) (hroom : A.depth + 1 < recursionLimit)
    (hq : ∀ h' tk e d, OwnMade s.heap h' e C d v → R (.ok (.ret (.ref e))) { s with heap := h', toks := tk }) :
    codeAny (model prog w) A (.call (.ref C) ⟨[v], []⟩) R s := by
  obtain ⟨nm, q, N, bs, bm, sn, sub, ab, col, dd, k0, k1, k2, k3, k5, hC, hbm, _⟩ := T.cls
  obtain ⟨hp, g, dr, tk, os⟩ := s
  have k : ∀ b o, hp.get? b = some o → ((hp.push (kdv_tup [v])).push (excO C hp.objs.size)).get? b = some o := fun b o e => Heap.get?_push_of_some _ (Heap.get?_push_of_some _ e)
  have hget : ((hp.push (kdv_tup [v])).push (excO C hp.objs.size)).get? (hp.objs.size + 1) = some (excO C hp.objs.size) := by heap_get
  have hnx : K.lookup (hp.objs.size + 1) = none := by
    cases e : K.lookup (hp.objs.size + 1) with
    | none => rfl
    | some o =>
      have z : hp.get? (hp.objs.size + 1) = some o := X _ _ e
      exact absurd (Nat.lt_of_succ_lt (Heap.lt_size z)) (Nat.lt_irrefl _)
  refine call_own F.excBase_ValueError (fun X => refsVE_contains X bm hbm) (X _ _ hC) (looks_findIn X T.iC) (fun self => bind_fn X self T.tC) (one_size v) ?_
  refine flt_init (s := ⟨(hp.push (kdv_tup [v])).push (excO C hp.objs.size), g, dr, tk, os⟩) T (X.keeps k) (G.keeps k) (B.keeps k) hB (hlim.keeps k) hget hnx ?_ fun h' tk' dx ⟨k', hx, dn, dne, hns⟩ => ?_
  · show A.depth + 1 < recursionLimit
    exact hroom
  · have old : ∀ b o, hp.get? b = some o → h'.get? b = some o := fun b o e => k' b o (Nat.ne_of_lt (Nat.lt_succ_of_lt (Heap.lt_size e))) (k b o e)
    have z : hp.objs.size + 1 + 1 ≤ dx := by
      first
        | (simpa only [Heap.size_push] using dn)
        | exact dn
        | (have q := dn; rw [Heap.size_push, Heap.size_push] at q; exact q)
    obtain ⟨t1, hx⟩ := hx
    exact ⟨rfl, hq h' tk' (hp.objs.size + 1) dx ⟨old, Nat.le_succ _, ⟨_, _, hx, rfl, rfl, rfl, rfl⟩, Nat.le_trans (Nat.le_trans (Nat.le_succ _) (Nat.le_succ _)) z, dne, hns⟩⟩
end
end FltX
end PySem
namespace L2
open PySem PySem.Spec PyProof.Rows
theorem relO_msg {v : V} {v' : Value} (r : RelV v v') (f : Str) : RelO (List.lookup f [(("message" : Str), v)]) (if f = "message" then some v' else none) := by
  by_cases hw : f = "message"
  · subst hw
    rw [if_pos rfl]
    have q : List.lookup ("message" : Str) [(("message" : Str), v)] = some v := by simp [List.lookup]
    rw [q]
    exact r
  · rw [if_neg hw]
    have qw : (f == ("message" : Str)) = false := by simpa using hw
    have q2 : List.lookup f [(("message" : Str), v)] = none := by simp [List.lookup, qw]
    rw [q2]
    trivial
section
variable {X : Cx} {C fI : Addr}
/-- Fault(e) -/
def tMkFlt (C : Addr) (ta : TA) : St → Hp → XK → Prop := fun σ H Q => ta σ H fun vs H1 => ∃ v, vs = [v] ∧ ∀ d, H1 d = none → Q (.ref C) (some d) (upd H1 d (.xd [(("message" : Str), v)]))
theorem pmk_flt {a : Expr} {ta : TA} {p pos : Pos} {k : Nat} (T : PySem.FltX.FltTxt X.prog X.K X.mg C fI) (hr : Room k X.A) (ha : PA X [a] ta) (hg : Gl X "Fault" := by rfl)
    (he : starEach (a :: []) X.env = (false, eval a X.env) :: starEach [] X.env := by rfl) (hpl : (backTo pos (starEach [] X.env)).any (·.1) = false := by rfl) :
    PMk X (.Call (.Name "Fault" p) [a] [] pos) (tMkFlt C ta) := by
  intro pins s σ H Q I h
  refine wpAny_Call_Name_kw (ld_glob I hg T.gC ?_)
  refine PySem.W.callWith_K (h₀ := X.base) I.ok.mod.kin T.kC (thn (ha.run pos pins s σ H _ I h) fun us s1 hh => ?_) he hpl
  obtain ⟨vs, H1, I1, r1, v, ev, q1⟩ := hh
  subst ev
  refine ⟨I1.kIn, ?_⟩
  cases r1 with
  | cons rv rn =>
    rename_i v' us'
    cases rn
    show wpAny _ _ (call (.ref C) [v']) _ _ _
    have hlim := I1.nolimit
    have hG := I1.ok.mod.glob.keeps I1.bk
    obtain ⟨mb, hB1, hB2⟩ := I1.ok.mod.blt
    have hB := hB1.keeps I1.bk
    have hX := I1.kIn
    obtain ⟨hp, g, dr, tk, os⟩ := s1
    refine wpAny_call (PySem.FltX.flt_made T hX hG hB (hB2 _ (by decide)) hlim (by have := hr.dp; omega) fun h' tk' e d M => ?_)
    show MkP X pins σ Q (.ref e) ⟨h', g, dr, tk', os⟩
    obtain ⟨oe, fv, hoe, hc, hd, hdat, h1⟩ := M.obj
    have hns := M.ns
    obtain ⟨G', g1, g2⟩ := restrict h' fun b => decide (b ≠ e)
    have gk : ∀ b, b ≠ e → G'.get? b = h'.get? b := fun b hb => g1 b (decide_eq_true hb)
    have ge : G'.get? e = none := g2 e (by simp)
    have old : ∀ b o, hp.get? b = some o → G'.get? b = some o := fun b o q => (gk b (Nat.ne_of_lt (Nat.lt_of_lt_of_le (Heap.lt_size q) M.new))).trans (M.keep b o q)
    have ob : ObjOk X.prog X.w (upd H1 d (.xd [(("message" : Str), v)])) G' d (.xd [(("message" : Str), v)]) :=
      ⟨_, hns.at (fun o q => (gk d M.dne).trans q), fun f => relO_msg rv f⟩
    have J : Inv X pins σ (upd H1 d (.xd [(("message" : Str), v)])) ⟨G', g, dr, tk', os⟩ := I1.laid (t' := tk') old M.dbig ob
    refine ⟨e, oe, fv, ⟨G', g, dr, tk', os⟩, _, .ref C, some d, rfl, J, fun b o q => ?_, ge, hoe, ⟨hc, hd⟩, hdat, h1, ?_, rfl, I1.bare, raises_own T.exC T.tyC, q1 d (I1.hok.fresh M.dbig)⟩
    · by_cases hb : b = e
      · have q' : G'.get? b = some o := q
        rw [hb, ge] at q'; cases q'
      · exact (gk b hb).symm.trans q
    · rw [upd_ne (Ne.symm M.dne)]
      exact I1.hok.fresh M.new
/-- raise Fault(e) -/
def tRaiseFlt (C : Addr) (W : WX) (ta : TA) : TS := fun _ σ H => tMkFlt C ta σ H fun cls d H' => W cls d σ H'
theorem ps_raiseFlt {a : Expr} {ta : TA} {W : WX} {p pos pos2 : Pos} {k : Nat} (hc : X.calm = true) (T : PySem.FltX.FltTxt X.prog X.K X.mg C fI) (hr : Room k X.A) (tk : Takes X W) (ha : PA X [a] ta) (hg : Gl X "Fault" := by rfl)
    (he : starEach (a :: []) X.env = (false, eval a X.env) :: starEach [] X.env := by rfl) (hpl : (backTo pos (starEach [] X.env)).any (·.1) = false := by rfl) :
    PS X (.Raise (some (.Call (.Name "Fault" p) [a] [] pos)) none pos2) (tRaiseFlt C W ta) := ps_raise hc tk (pmk_flt T hr ha hg he hpl)
/-- e.message, e the exception that the suite holds (at a; its class cls, its dict d) -/
def tMsgFlt (C : Addr) (a : Addr) (cls : Value) (d : Option Addr) (te : TE) : TE := fun σ H Q => te σ H fun x H1 => x = .ref a ∧ cls = .ref C ∧ ∃ (dd : Addr) (v : V), d = some dd ∧ H1 dd = some (.xd [(("message" : Str), v)]) ∧ Q v H1
theorem pe_msgFlt {a : Addr} {oe : Obj} {cls : Value} {d : Option Addr} {pn : List (Addr × Obj)} {e : Expr} {te : TE} {pos : Pos} (T : PySem.FltX.FltTxt X.prog X.K X.mg C fI) (hz : Zc cls d oe) (hf : ∃ vs, oe.data = .fields vs) (he : PE (X.suite a ((a, oe) :: pn)) e te)
    (hb : attributeBase e "message" X.env (eval e X.env) = eval e X.env := by rfl) :
    PE (X.suite a ((a, oe) :: pn)) (.Attribute e "message" pos) (tMsgFlt C a cls d te) := by
  refine ⟨fun pins s σ H Q I h => ?_⟩
  refine attr_of hb (thn (he.run pins s σ H _ I h) fun u s1 hh => ?_)
  obtain ⟨x, H1, I1, rx, ex, ec, dd, v, ed, ea, q⟩ := hh
  subst ex
  obtain rfl : u = Value.ref a := rx
  subst ec
  subst ed
  obtain ⟨ha, _⟩ := I1.pin (a, oe) (List.mem_append_left _ List.mem_cons_self)
  obtain ⟨vs, hd⟩ := hf
  have hx : ObjOk X.prog X.w H1 s1.heap dd (.xd [(("message" : Str), v)]) := I1.hok dd _ ea
  obtain ⟨mA, hns, hr⟩ := hx
  obtain ⟨od, ho, hl⟩ := lookIn_ns hns
  have l : List.lookup ("message" : Str) [(("message" : Str), v)] = some v := by simp [List.lookup]
  obtain ⟨u, hu, ru⟩ := RelO.some_of (v := v) (o := mA "message") (by rw [← l]; exact hr "message")
  have J : PySem.W.InstAt s1.heap a oe C (some od) := ⟨ha, hz.1, by unfold PySem.W.notCls; rw [hd] <;> rfl, by rw [hz.2]; exact ho⟩
  exact HandSPX.exc_get I1.kIn J T.ga T.gg T.exC (PySem.W.findObj_own T.hdC T.noN rfl (by rw [hl, hu])) (handed_of ru) ⟨v, H1, I1.tok _, ru, q⟩
/-- isinstance(e, Fault), e the exception that the suite holds -/
def rIsFlt (C a : Addr) (cls : Value) : List V → Hp → VK → Prop := fun xs H Q => xs = [.ref a, .ref C] ∧ cls = .ref C ∧ Q (.bl true) H
end
end L2
/-! A list comprehension whose element may raise out of it. -/
namespace L2
open PySem PySem.Spec PyProof.Rows

/-- the context of a block whose element may raise -/
abbrev Cx.blkX (X : Cx) (s : Shared) (H : Hp) (scope : Scope) (cenv : Env) (fp : List Addr) : Cx :=
  { X with s_0 := s, H_0 := H, env := cenv, outer := X.stack, ex := fp, fn := fun x => scope.names.lookup x == some .cell, pn := [], xe := notedBy (model X.prog X.w) X.A cenv (CompFails (model X.prog X.w) X.A X.xe cenv) }
theorem Inv.toX {X : Cx} {s : Shared} {H : Hp} {scope : Scope} {cenv : Env} {fp : List Addr} {pins : List (Addr × Obj)} {σ : St} {H' : Hp} {s' : Shared} (I : Inv (X.blk s H scope cenv fp) pins σ H' s') : Inv (X.blkX s H scope cenv fp) pins σ H' s' :=
  have ok := I.ok
  ⟨⟨ok.mod, ok.kind, ok.glob, ok.blt, ok.above, ok.inj, ok.has, ok.cab, ok.hd, ok.frames, ok.stk, ok.exf, ok.bs, ok.bsz, ok.noex, ok.exfs, ok.funs, ok.frf⟩, I.os, I.bare, I.base, I.loc, I.cell, I.free, I.freeC, I.pin, I.hok, I.len⟩

/-- where a block began: the def's own state there -/
structure BlkAt (X : Cx) (s3 : Shared) (H3 : Hp) (C : Addr) (fp : List Addr) : Prop where
  at_ : ∃ (pins : List (Addr × Obj)) (σ : St), Inv X pins σ H3 s3 ∧ ∀ b ∈ fp, FpOk X pins H3 b
  sz : s3.heap.objs.size = C

theorem flyingZ_sub {B B' : Heap} {l : List Env} {e : Addr} {Z : Obj → Prop} {h : Heap} (x : HandSPX.FlyingZ B l e Z h) (k : ∀ b o, B'.get? b = some o → B.get? b = some o) : HandSPX.FlyingZ B' l e Z h := by
  have no : ∀ b, B.get? b = none → B'.get? b = none := fun b n => by
    cases q : B'.get? b with
    | none => rfl
    | some o => rw [k b o q] at n; cases n
  obtain ⟨st, na, ff, oe, vs, T, oT, ts, he, hz, hd, h1, nT, Te, hT, hdT, h3⟩ := x
  refine ⟨fun b o q => st b o (k b o q), no _ na, funFrames_none ff fun L hL => ?_, oe, vs, T, oT, ts, he, hz, hd, h1, no _ nT, Te, hT, hdT, h3⟩
  exact no _ (ff.mem hL).1

/-- what a callee lets out within the block's element goes on out of the comprehension -/
theorem passes_blk {X : Cx} {W : WX} {E : XK} {s3 : Shared} {H3 : Hp} {scope : Scope} {ce : Env} {fp : List Addr} (hs : X.stack = X.env :: X.outer) (hf : X.env.frame = some X.env.locals) (tk : Takes X W) (hW : ∀ cls d σ H, E cls d H → W cls d σ H)
    (hb : BlkAt X s3 H3 ce.locals fp) (hcf : ce.frame = X.env.frame) : Passes (CX X.prog X.w) (X.blkX s3 H3 scope ce fp) E := by
  intro pins σ Hb sb e s' I c
  obtain ⟨pins0, σ0, I3, f3⟩ := hb.at_
  have ok3 := I3.ok
  have hfr : X.A.frames = some (X.env :: X.outer) := by rw [ok3.frames, hs]
  obtain ⟨a, B, H', cls, d, rfl, fl, okH, ub, noA, os, ag, let_⟩ := c
  have fl : HandSPX.FlyingZ B X.stack a (Zc cls d) s'.heap := fl
  have ub : UB (frs X.stack) Hb H' sb.heap B s'.heap := ub
  -- the ground without the block's names
  obtain ⟨B', b1, b2⟩ := restrict B fun b => decide (b ≠ ce.locals)
  have bk : ∀ b, b ≠ ce.locals → B'.get? b = B.get? b := fun b h => b1 b (decide_eq_true h)
  have bC : B'.get? ce.locals = none := b2 _ (by simp)
  have bsub : ∀ b o, B'.get? b = some o → B.get? b = some o := fun b o q => by
    by_cases h : b = ce.locals
    · rw [h, bC] at q; cases q
    · rw [← bk b h]; exact q
  have fl' : HandSPX.FlyingZ B' X.stack a (Zc cls d) s'.heap := flyingZ_sub fl bsub
  -- the state without the exception and the block's names
  obtain ⟨G, g1, g2⟩ := restrict s'.heap fun b => ((B.get? b).isSome || decide (b ∈ frs X.stack)) && decide (b ≠ ce.locals)
  have stays : B.StaysIn s'.heap := fl.1
  have gB : ∀ b o, b ≠ ce.locals → B.get? b = some o → G.get? b = some o := fun b o hb e => by
    rw [g1 b (by simp [e, hb])]
    exact stays b o e
  have gF : ∀ b, b ≠ ce.locals → b ∈ frs X.stack → G.get? b = s'.heap.get? b := fun b hc hb => g1 b (by simp [hb, hc])
  have og : ∀ b o, G.get? b = some o → s'.heap.get? b = some o ∧ ((B.get? b).isSome = true ∨ b ∈ frs X.stack) ∧ b ≠ ce.locals := fun b o e => by
    cases q : (((B.get? b).isSome || decide (b ∈ frs X.stack)) && decide (b ≠ ce.locals)) with
    | false => exact nomatch (g2 b q).symm.trans e
    | true =>
      rw [g1 b q] at e
      simp only [Bool.and_eq_true, Bool.or_eq_true, decide_eq_true_eq] at q
      exact ⟨e, q.1, q.2⟩
  have szC : s3.heap.objs.size = ce.locals := hb.sz
  have lt3 : ∀ b o, s3.heap.get? b = some o → b ≠ ce.locals := fun b o e => by rw [← szC]; exact Nat.ne_of_lt (Heap.lt_size e)
  have freeC : Hb ce.locals = none := I.free
  obtain ⟨m0, hn0, _⟩ := I.loc
  have hn0 : sb.heap.Ns ce.locals m0 := hn0
  obtain ⟨oC, esC, epC, hoC, hdC, _⟩ := id hn0
  have nfrC : ce.locals ∉ frs X.stack := fun hm => by
    rcases List.mem_cons.mp (I3.stkSub _ hm) with z | z
    · exact absurd (I3.lt) (by rw [← z, ← szC]; exact Nat.lt_irrefl _)
    · obtain ⟨_, o, ho, _⟩ := I3.ok.funs.mem z
      have h1 := Heap.lt_size ho
      have h2 := I3.sz
      rw [szC] at h2
      have below := Nat.lt_of_lt_of_le h1 h2; exact Nat.lt_irrefl _ below
  have freeC' : H' ce.locals = none := ub.free _ _ hoC freeC
  have BC : B.get? ce.locals = some oC := ub.keep _ _ hoC freeC nfrC
  have hsC : s'.heap.get? ce.locals = some oC := stays _ _ BC
  have hokG : HOk X.prog X.w H' G := fun b o q => (okH b o q).stay (fun c u hc r => gB c u (fun z => by
      rcases hc with hc | hc
      · rw [← hc, z, freeC'] at q; cases q
      · rw [z, freeC'] at hc; cases hc) r) (fun _ r => r) fun _ _ r => r
  have U0 : Un (frs X.stack) fp H3 Hb s3.heap sb.heap := I.base
  have U1 : Un (frs X.stack) fp H3 H' s3.heap G := {
    keep := fun b o e n hb' hx => gB b o (lt3 b o e) (ub.keep b o (U0.keep b o e n hb' hx) (U0.free b o e n hx) hb')
    slot := fun b o e n hb' hx => by
      obtain ⟨sl, e1⟩ := U0.slot b o e n hb' hx
      obtain ⟨sl2, e2⟩ := ub.slot b _ e1 hb'
      exact ⟨sl2, by rw [gF b (lt3 b o e) hb']; exact e2⟩
    free := fun b o e n hx => by
      obtain ⟨o', e1⟩ := U0.there b o e hx
      exact ub.free b o' e1 (U0.free b o e n hx)
    there := fun b o e hx => by
      obtain ⟨o', e1⟩ := U0.there b o e hx
      by_cases hb' : b ∈ frs X.stack
      · obtain ⟨sl, q⟩ := ub.slot b o' e1 hb'
        exact ⟨_, by rw [gF b (lt3 b o e) hb']; exact q⟩
      · obtain ⟨o2, q⟩ := ub.there b o' e1 hb'
        exact ⟨o2, gB b o2 (lt3 b o e) q⟩
    tups := fun b xs e => ub.tups b xs (U0.tups b xs e)
    frzs := fun b o xs e => ub.frzs b o xs (U0.frzs b o xs e)
    tbls := fun b ps e => by
      obtain ⟨m1, e1⟩ := U0.tbls b ps e
      obtain ⟨more, e2⟩ := ub.tbls b _ e1
      exact ⟨m1 ++ more, by rw [e2, Array.append_assoc]⟩ }
  have osb : sb.os = s3.os := I.os
  have JG : Inv X pins0 σ0 H' { s' with heap := G } := I3.call' (s' := { s' with heap := G }) (ch := fp) (os.trans osb) U1 hokG ag fun b hb => ⟨(f3 b hb).2.2.2.1, (f3 b hb).2.1, (f3 b hb).2.2.2.2.1, (f3 b hb).2.2.2.2.2⟩
  -- the frame notes it
  show wpAny (model X.prog X.w) X.A (noteFrame (.ref a) ce) _ _ s'
  rw [noteFrame_env _ hcf]
  have fl'' : HandSPX.FlyingZ B' (X.env :: X.outer) a (Zc cls d) s'.heap := by rw [← hs]; exact fl'
  refine HandSPX.looks_onZ Zc.steady hfr hf fl'' fun h1 hh1 up1 => ?_
  -- the block is let go, the exception goes on
  have hnC : s'.heap.Ns ce.locals m0 := hn0.at fun o q => by
    rw [hoC] at q; cases q; exact hsC
  have hn1 : h1.Ns ce.locals m0 := hnC.upToSlots up1
  refine ⟨m0, hn1, fun h2 m2 hn2 hs2 => ?_⟩
  have rec2 : ∀ {x : Addr} {o : Obj} {vs : Array Value}, h1.get? x = some o → o.data = .fields vs → h2.get? x = some o := fun {x o vs} e dd => by
    refine (hs2.2 x fun z => ?_).trans e
    obtain ⟨o', es, ep, ho', hd', _⟩ := hn1
    rw [z] at e
    rw [ho'] at e; cases e
    rw [hd'] at dd; cases dd
  obtain ⟨k1, k2, k3, oe, vs, T, oT, ts, he, hz, hd, h1v, nT, Te, hT, hdT, h3v⟩ := hh1
  have hh2 : HandSPX.HeldZ B' (X.env :: X.outer) a (Zc cls d) X.env.locals h2 :=
    ⟨fun b o q => (hs2.2 b fun z => by rw [z, bC] at q; cases q).trans (k1 b o q), k2, Heap.FunFrames.sameBut hs2 hn2 k3, oe, vs, T, oT, ts, rec2 he hd, hz, hd, h1v, nT, Te, rec2 hT hdT, hdT, h3v⟩
  unfold PySem.passOn
  refine wpAny_bind (wpAny_field (rec2 he hd) hd h1v ?_)
  rw [if_neg (by simp : ¬ (Value.ref T == Value.none) = true), hcf, hf]
  refine wpAny_bind (HandSPX.setFlight_onZ hh2 fun h3 hh3 up3 => wpAny_throw ?_)
  refine tk _ _ ⟨a, B', { s' with heap := G }, pins0, σ0, H', cls, d, rfl, JG, fun b o e hb' => ?_, ?_, ?_, noA, rfl, ag, hW _ _ _ _ let_⟩
  · obtain ⟨e', h, hc⟩ := og b o e
    rcases h with h | h
    · obtain ⟨ob, q⟩ := Option.isSome_iff_exists.mp h
      have z := stays b ob q
      rw [e'] at z; cases z
      rw [bk b hc]
      exact q
    · exact absurd h hb'
  · intro b o e hnf
    obtain ⟨e', _, hc⟩ := og b o e
    obtain ⟨sl1, q1⟩ := up1 b o e' hnf
    have q2 : h2.get? b = some { o with slots := sl1 } := (hs2.2 b hc).trans q1
    obtain ⟨sl2, q3⟩ := up3 b _ q2 hnf
    exact ⟨sl2, q3⟩
  · rw [hs]
    exact .inr (.inr hh3)
section
variable {X : Cx}
/-- nothing of ours at what is walked over -/
abbrev Clear (l : List Addr) (G : Hp) : Prop := ∀ a ∈ l, G a = none
/-- the def's own state where its block begins: behind the new list, the block's names not yet made -/
structure Home (X : Cx) (pins : List (Addr × Obj)) (σ : St) (s0 : Shared) (H0 : Hp) (ce : Env) (walked : List Addr) : Prop where
  inv : Inv X pins σ H0 s0
  names : ce.locals = s0.heap.objs.size
  apart : ∀ a ∈ walked, FpOk X pins H0 a
/-- a block's state between two of its turns; left measures what is still to come -/
structure Mid (Y : Cx) (walked : List Addr) (pos : Nat → Heap → Prop) (ρ : St) (W : Nat → Nat → Hp → Prop) (left : Nat) (t : Shared) : Prop where
  st : ∃ (k : Nat) (G : Hp), Inv Y [] ρ G t ∧ pos k t.heap ∧ Clear walked G ∧ W k left G
theorem clear_fp {s0 : Shared} {H0 G : Hp} {scope : Scope} {ce : Env} {walked : List Addr} {ρ : St} {t : Shared} (J : Inv (X.blkX s0 H0 scope ce walked) [] ρ G t) (c : Clear walked G) : ∀ a ∈ walked, FpOk (X.blkX s0 H0 scope ce walked) [] G a := by
  intro a m
  obtain ⟨l, q⟩ := J.ok.exf a m
  refine ⟨c a m, l, J.ok.exfs a m, Or.inl m, q, ?_⟩
  intro p hp
  exact nomatch (show p ∈ ([] : List (Addr × Obj)) from hp)
/-- from within the block back to the def -/
theorem Home.back {pins : List (Addr × Obj)} {σ ρ : St} {s0 t : Shared} {H0 G : Hp} {scope : Scope} {ce : Env} {walked : List Addr} (h : Home X pins σ s0 H0 ce walked) (J : Inv (X.blkX s0 H0 scope ce walked) [] ρ G t) : Inv X pins σ G t :=
  h.inv.call' (ch := walked) J.os J.base J.hok J.bare fun a m => match h.apart a m with | ⟨_, l, _, e, c, p⟩ => ⟨e, l, c, p⟩
/-- what the comprehension owes when nothing is left -/
theorem Home.ends {pins : List (Addr × Obj)} {σ ρ : St} {s0 t : Shared} {H0 G : Hp} {scope : Scope} {ce : Env} {walked : List Addr} {Q : VK} {D : Addr} (h : Home X pins σ s0 H0 ce walked) (J : Inv (X.blkX s0 H0 scope ce walked) [] ρ G t) (q : Q (.ref D) G) :
    compEnds (model X.prog X.w) X.A X.xe none (EP X pins σ Q) (.ref D) ce (.ok .next) t := by
  have free : G ce.locals = none := J.free
  rw [h.names] at free
  obtain ⟨c0, c1, _, c3, c4, c5⟩ := h.inv.fpOk (Nat.le_refl _) free
  obtain ⟨mm, ns, _⟩ := J.loc
  refine ⟨mm, ns, fun hh same => ⟨.ref D, G, ?_, rfl, q⟩⟩
  refine (h.back J).turned (t' := t.toks) (fun a o ne e => ?_) c0 c1 c3 c4 c5
  rw [← h.names] at ne
  exact (same.2 a ne).trans e
/-- a turn's end: the walked things as they were, the block's own names let go -/
theorem Mid.next {Y : Cx} {P : Program} {w : World} {K : PySem.W.Frag} {tg : Expr} {J : It} {walked : List Addr} {it : Addr} {pos : Nat → Heap → Prop} {σ σ1 : St} {ws : List Nat} {W : Nat → Nat → Hp → Prop} {k left : Nat} {t0 t : Shared} {G : Hp}
    (T : Turn P w K tg J walked it pos) (hw : wipe σ1 ws = wipe σ ws) (p0 : pos (k + 1) t0.heap) (I : Inv Y ([] ++ pinsAt walked t0.heap) σ1 G t) (n : W (k + 1) left G) : Mid Y walked pos (wipe σ ws) W left t := by
  have held : ∀ a ∈ walked, ∀ o, t0.heap.get? a = some o → t.heap.get? a = some o ∧ G a = none := by
    intro a ha o e
    have z := I.pin (a, o) (List.mem_append.mpr (.inr (List.mem_append.mpr (.inr (mem_pinsAt ha e)))))
    exact ⟨z.1, z.2.1⟩
  have len : (wipe σ ws).length = σ1.length := hw ▸ wipe_length σ1 ws
  have J0 : Inv Y [] (wipe σ ws) G t := (I.unpinned (pins := [])).weak len fun j v e => (wipe_some (hw.symm ▸ e : (wipe σ1 ws)[j]? = some (some v))).1
  refine ⟨k + 1, G, J0, T.keep _ _ _ p0 fun a ha o e => (held a ha o e).1, fun a ha => ?_, n⟩
  obtain ⟨o, e, _⟩ := T.obj _ _ p0 a ha
  exact (held a ha o e).2
/-- an empty list made -/
theorem made_nil {pins : List (Addr × Obj)} {σ : St} {s : Shared} {H : Hp} (I : Inv X pins σ H s) :
    Inv X pins σ (upd H s.heap.objs.size (.lst [])) { s with heap := s.heap.push { cls := .type "list", data := .seq ([] : List Value).toArray } } :=
  I.laid (t' := s.toks) (fun _ _ => Heap.get?_push_of_some _) (Nat.le_refl _) ⟨Nat.zero_le _, [], 0, .nil, Heap.get?_push_size _ rfl⟩
/-- what is walked over stays apart behind a new list -/
theorem apart_nil {P : Program} {w : World} {K : PySem.W.Frag} {tg : Expr} {J : It} {walked : List Addr} {it : Addr} {pos : Nat → Heap → Prop} {pins : List (Addr × Obj)} {s : Shared} {H : Hp} (T : Turn P w K tg J walked it pos) (p : pos 0 s.heap) (f : ∀ a ∈ walked, FpOk X pins H a) :
    ∀ a ∈ walked, FpOk X pins (upd H s.heap.objs.size (.lst [])) a ∧ a < (s.heap.push { cls := .type "list", data := .seq ([] : List Value).toArray }).objs.size := by
  intro a m
  obtain ⟨o, e, _⟩ := T.obj _ _ p a m
  have lt := Heap.lt_size e
  obtain ⟨f0, fr⟩ := f a m
  have q : upd H s.heap.objs.size (.lst []) a = none := (upd_ne (Nat.ne_of_lt lt)).trans f0
  exact ⟨⟨q, fr⟩, Heap.size_push _ _ ▸ Nat.lt_succ_of_lt lt⟩
/-- the cells of the block, and its frame, at s0 -/
abbrev blkCells (X : Cx) (scope : Scope) (s0 : Shared) : List (Str × Addr) := cellsFrom (s0.heap.objs.size + 1) scope.names (cloFrom X.env.cells scope.names [])
abbrev blkEnv (X : Cx) (scope : Scope) (s0 : Shared) : Env := compEnvC scope (blkCells X scope s0) s0.heap.objs.size X.env
abbrev blkHeap (scope : Scope) (s0 : Shared) : Shared := { s0 with heap := pushCells (s0.heap.push { cls := .type "dict", data := .dict #[] }) scope.names }
/-- all turns of the block -/
theorem lc_turns {pins : List (Addr × Obj)} {σ : St} {s0 t : Shared} {H0 : Hp} {Q : VK} {elt tg iter : Expr} {ifs : List Expr} {scope : Scope} {ws : List Nat} {at_ : Pos} {g : TG} {tt : TT} {te : TE} {ce : Env} {walked : List Addr} {it D : Addr} {pos : Nat → Heap → Prop} {J : It} {W : Nat → Nat → Hp → Prop} {left : Nat}
    (hc : X.calm = true) (T : Turn X.prog X.w X.K tg J walked it pos) (home : Home X pins σ s0 H0 ce walked)
    (pg : PG (X.blkX s0 H0 scope ce walked) tg g) (pt : PTs (X.blkX s0 H0 scope ce walked) ifs tt) (pe : PE (X.blkX s0 H0 scope ce walked) elt te)
    (turn : ∀ k m G, W k m G → (J.stop k G ∧ Q (.ref D) G) ∨ (J.go k G ∧ ∃ N : Hp → Prop, (∀ G', N G' → ∃ m', m' < m ∧ W (k + 1) m' G') ∧
      ∀ x G', J.yld k G x G' → g x (wipe σ ws) G' fun σ1 G1 => wipe σ1 ws = wipe σ ws ∧ tt σ1 G1 fun b G2 => if b = true then te σ1 G2 fun y G3 => ∃ xs, G3 D = some (.lst xs) ∧ xs.length < sizeLine ∧ N (upd G3 D (.lst (xs ++ [y]))) else N G2))
    (m : Mid (X.blkX s0 H0 scope ce walked) walked pos (wipe σ ws) W left t) :
    codeAny (model X.prog X.w) X.A (.compLoop (.ListComp elt [⟨tg, iter, ifs, 0⟩] scope at_) 0 (.ref it) (.ref D) ce) (compEnds (model X.prog X.w) X.A X.xe none (EP X pins σ Q) (.ref D) ce) t := by
  refine compLoop_any (Mid (X.blkX s0 H0 scope ce walked) walked pos (wipe σ ws) W) (fun n u hu => ?_) left m
  obtain ⟨k, G, IG, pk, cl, wk⟩ := hu
  have fps := clear_fp IG cl
  rcases turn k n G wk with ⟨hs, hq⟩ | ⟨hgo, N, less, items⟩
  · refine thnF (T.done (X.blkX s0 H0 scope ce walked) rfl rfl rfl hc k [] u _ G (fun _ _ => False) IG fps pk hs) ?_
    rintro r u1 ⟨rfl, I1⟩
    exact home.ends I1 hq
  · refine thnF (T.item (X.blkX s0 H0 scope ce walked) rfl rfl rfl hc k [] u _ G (fun _ _ => False) IG fps pk hgo) ?_
    rintro r u1 ⟨v, rfl, go1⟩
    refine thnF go1 ?_
    rintro _ u2 ⟨x, G2, I2, rx, yx, p2, c2⟩
    refine thn (pg.run _ u2 _ G2 x v _ (I2.pinned (clear_fp I2 c2) (T.obj _ _ p2)) rx (items x G2 yx)) ?_
    rintro _ u3 ⟨σ3, G3, I3, w3, q3⟩
    refine thn (pt.run _ u3 σ3 G3 _ I3 q3) ?_
    rintro b u4 ⟨G4, I4, q4⟩
    have done : ∀ {u' : Shared} {G' : Hp}, Inv (X.blkX s0 H0 scope ce walked) ([] ++ pinsAt walked u2.heap) σ3 G' u' → N G' → ∃ m', m' < n ∧ Mid (X.blkX s0 H0 scope ce walked) walked pos (wipe σ ws) W m' u' := by
      intro u' G' I' hN
      obtain ⟨m', lt, w'⟩ := less G' hN
      exact ⟨m', lt, Mid.next T w3 p2 I' w'⟩
    cases b
    · rw [if_neg Bool.false_ne_true] at q4 ⊢
      exact done I4 q4
    · rw [if_pos rfl] at q4 ⊢
      refine thn (pe.run _ u4 σ3 G4 _ I4 q4) ?_
      rintro z u5 ⟨y, G5, I5, ry, xs, hxs, room, last⟩
      exact app_ok (X := X.blkX s0 H0 scope ce walked) I5 hxs room ry fun _ I6 => done I6 last
theorem lc_coreX {pins : List (Addr × Obj)} {s : Shared} {σ : St} {H : Hp} {Q : VK} {elt tg iter : Expr} {ifs : List Expr} {scope : Scope} {own : List (Str × Nat)} {pos pos' : Pos} {wi : TI} {g : TG} {tt : TT} {te : TE}
    (hc : X.calm = true) (hN : X.N.Nodup) (I : Inv X pins σ H s) (pi : PI X tg iter wi) (ok : BlkOk X.N X.env.scope scope own)
    (hg : ∀ (s : Shared) (H : Hp) (C : Addr) (cl : List (Str × Addr)) (fp : List Addr), PG (X.blkX s H scope (compEnvC scope cl C X.env) fp) tg g) (ht : ∀ (s : Shared) (H : Hp) (C : Addr) (cl : List (Str × Addr)) (fp : List Addr), PTs (X.blkX s H scope (compEnvC scope cl C X.env) fp) ifs tt)
    (he : ∀ (s : Shared) (H : Hp) (C : Addr) (cl : List (Str × Addr)) (fp : List Addr), BlkAt X s H C fp → PE (X.blkX s H scope (compEnvC scope cl C X.env) fp) elt te) (hs : ∀ x, foldedSetIterable iter X.env x = pure x)
    (h : tLc wi g tt te (own.map (·.2)) σ H Q) :
    wpAny (model X.prog X.w) X.A (comprehension (.ListComp elt [⟨tg, iter, ifs, 0⟩] scope pos) scope X.env pos' (newList []) false (eval iter X.env) none) (EP X pins σ Q) X.xe s := by
  have cells : closureFor scope X.env = pure (cloFrom X.env.cells scope.names []) := closure_ok fun y m e => I.ok.has _ (ok.free y m e)
  have loc : ∀ y ∈ scope.names, y.2 = .local → scope.names.lookup y.1 = some .local := fun y m e => e ▸ ok.uniq y m
  refine comprehension_at (use := none) rfl hs cells ok.kind loc (thn (pi.run pins s σ H _ I h) fun _ u1 k1 => thn k1 ?_)
  rintro _ u2 ⟨it, walked, at_, J, G, rfl, IG, T, p0, f0, q⟩
  refine wpAny_newObj_type (newEnv_comp ?_) (Nat.zero_le _)
  obtain ⟨W, ⟨left, w0⟩, turn⟩ := q u2.heap.objs.size (IG.hok.fresh (Nat.le_refl _))
  have IL := made_nil IG
  have ap := apart_nil T p0 f0
  have pL : at_ 0 (u2.heap.push { cls := .type "list", data := .seq ([] : List Value).toArray }) := T.keep _ _ _ p0 fun a _ o e => Heap.get?_push_of_some _ e
  generalize eL : ({ u2 with heap := u2.heap.push { cls := .type "list", data := .seq ([] : List Value).toArray } } : Shared) = uL at IL
  have hL : uL.heap = u2.heap.push { cls := .type "list", data := .seq ([] : List Value).toArray } := eL ▸ rfl
  rw [← hL] at ap pL
  generalize u2.heap.objs.size = D at *
  generalize upd G D (.lst []) = GL at *
  have home : Home X pins σ uL GL (blkEnv X scope uL) walked := ⟨IL, rfl, fun a m => (ap a m).1⟩
  have blk := (block_start IL ok hN ap).toX
  have pB : at_ 0 (blkHeap scope uL).heap := T.keep _ _ _ pL fun a _ o e => pushCells_keeps _ _ _ _ (Heap.get?_push_of_some _ e)
  have mid : Mid (X.blkX uL GL scope (blkEnv X scope uL) walked) walked at_ (wipe σ (own.map (·.2))) W left (blkHeap scope uL) := ⟨0, GL, blk, pB, fun a m => (ap a m).1.1, w0⟩
  have all := lc_turns (elt := elt) (iter := iter) (ifs := ifs) (at_ := pos) hc T home (hg _ _ _ _ _) (ht _ _ _ _ _) (he _ _ _ _ _ ⟨⟨pins, σ, IL, home.apart⟩, rfl⟩) turn mid
  subst eL
  exact codeAny_compStart_list all (T.self X.A 0 _ _ _ pB all)
/-- as a value -/
theorem pe_lcX {elt tg iter : Expr} {ifs : List Expr} {scope : Scope} {own : List (Str × Nat)} {pos : Pos} {wi : TI} {g : TG} {tt : TT} {te : TE} (hc : X.calm = true) (hN : X.N.Nodup) (hi : PI X tg iter wi) (ok : BlkOk X.N X.env.scope scope own)
    (hg : ∀ (s : Shared) (H : Hp) (C : Addr) (cl : List (Str × Addr)) (fp : List Addr), PG (X.blkX s H scope (compEnvC scope cl C X.env) fp) tg g) (ht : ∀ (s : Shared) (H : Hp) (C : Addr) (cl : List (Str × Addr)) (fp : List Addr), PTs (X.blkX s H scope (compEnvC scope cl C X.env) fp) ifs tt)
    (he : ∀ (s : Shared) (H : Hp) (C : Addr) (cl : List (Str × Addr)) (fp : List Addr), BlkAt X s H C fp → PE (X.blkX s H scope (compEnvC scope cl C X.env) fp) elt te) (hs : ∀ x, foldedSetIterable iter X.env x = pure x := by intro _; rfl) :
    PE X (.ListComp elt [⟨tg, iter, ifs, 0⟩] scope pos) (tLc wi g tt te (own.map (·.2))) := ⟨fun pins s σ H Q I h => by
    rw [eval_ListComp]
    exact lc_coreX hc hN I hi ok hg ht he hs h⟩
end
end L2
/-! The mirror: values, expressions, what an expression is worth. -/
namespace K19
open PySem L2

inductive Val where
  | nul | boo (b : Bool) | num (i : Int) | txt (s : Str) | lst (l : List Val) | rcd (ks : List Str) (l : List Val) | act (o : Int) (n : Str) (l : List Val)

def kindN : Val → Str
  | .nul => "null"
  | .boo _ => "boolean"
  | .num _ => "number"
  | .txt _ => "text"
  | .lst _ => "list"
  | .rcd _ _ => "record"
  | .act _ _ _ => "act"

def partsV : Val → List Val
  | .lst l => l
  | .rcd _ l => l
  | .act _ _ l => l
  | _ => []

mutual
def depthV : Val → Nat
  | .lst l => depthL l + 1
  | .rcd _ l => depthL l + 1
  | .act _ _ l => depthL l + 1
  | .nul => 1
  | .boo _ => 1
  | .num _ => 1
  | .txt _ => 1
def depthL : List Val → Nat
  | [] => 0
  | x :: r => max (depthV x) (depthL r)
end

def lens : List Str → Nat
  | [] => 0
  | k :: r => k.length + lens r

mutual
def sizeV : Val → Nat
  | .lst l => 1 + sizeL l
  | .rcd ks l => 1 + lens ks + sizeL l
  | .act _ n l => 1 + n.length + sizeL l
  | .nul => 1
  | .boo _ => 1
  | .num _ => 1
  | .txt s => 1 + s.length
def sizeL : List Val → Nat
  | [] => 0
  | x :: r => sizeV x + sizeL r
end

/-- what stands under the name k -/
def getK : List Str → List Val → Str → Option Val
  | j :: js, y :: ys, k => if j = k then some y else getK js ys k
  | _, _, _ => none

mutual
def sameV : Val → Val → Bool
  | .nul, .nul => true
  | .boo a, .boo b => a == b
  | .num a, .num b => a == b
  | .txt a, .txt b => a == b
  | .lst a, .lst b => sameL a b
  | .rcd ks a, .rcd js b => ks.length == js.length && sameR a ks js b
  | .act o n a, .act p m b => o == p && n == m && sameL a b
  | _, _ => false
def sameL : List Val → List Val → Bool
  | [], [] => true
  | x :: r, y :: s => sameV x y && sameL r s
  | _, _ => false
def sameR : List Val → List Str → List Str → List Val → Bool
  | x :: r, k :: ks, js, b => (match getK js b k with | some y => sameV x y | none => false) && sameR r ks js b
  | _, _, _, _ => true
end

/-- a value as it may stand: names of records differ, numbers keep the bounds -/
def okK (ks : List Str) : Bool := ks.all fun k => k.cps.all (· < 0x110000)
mutual
def okV : Val → Bool
  | .lst l => okL l
  | .rcd ks l => decide ks.Nodup && decide (ks.length = l.length) && decide (ks.length ≤ 40) && okK ks && okL l
  | .act o n l => okL l && decide (o.natAbs ≤ 1000)
  | .nul => true
  | .boo _ => true
  | .num i => decide (i.natAbs ≤ 1000000000000000000000000000000)
  | .txt _ => true
def okL : List Val → Bool
  | [] => true
  | x :: r => okV x && okL r
end

def textOf : Val → Option Str
  | .nul => some ""
  | .boo b => some (if b then "true" else "false")
  | .num i => some (toString i)
  | .txt s => some s
  | _ => none

abbrev Res := Except Str Val

def mNum (i : Int) : Res := if i.natAbs > 1000000000000000000000000000000 then .error "number too large" else .ok (.num i)
def mTxt (s : Str) : Res := if s.length > 2000 then .error "too large" else .ok (.txt s)
def isLong : Val → Bool
  | .lst l => decide (l.length > 200)
  | _ => false
def mMade (x : Val) : Res :=
  if isLong x then .error "too large" else if depthV x > 20 then .error "nested too deep" else if sizeV x > 2000 then .error "too large" else .ok x
def mQuo (a b : Int) : Int := if decide (a < 0) = decide (b < 0) then ((a.natAbs / b.natAbs : Nat) : Int) else -((a.natAbs / b.natAbs : Nat) : Int)
def isTxt : Val → Bool
  | .txt _ => true
  | _ => false
def mAdd : Val → Val → Res
  | .num a, .num b => mNum (a + b)
  | .lst a, .lst b => mMade (.lst (a ++ b))
  | x, y => if isTxt x || isTxt y then (match textOf x, textOf y with | some s, some t => mTxt (s ++ t) | _, _ => .error "not a text") else .error "not to be added"
def ltS (a b : Str) : Bool := decide (a.cps.toList < b.cps.toList)
def leS (a b : Str) : Bool := decide (a.cps.toList ≤ b.cps.toList)
def mCalc (g : Str) : Val → Val → Res
  | .num a, .num b => if g = "-" then mNum (a - b) else if g = "*" then mNum (a * b) else if b = 0 then .error "division by 0" else mNum (mQuo a b)
  | _, _ => .error "not a number"
def mCmp (g : Str) : Val → Val → Res
  | .num a, .num b => .ok (.boo (if g = "<" then decide (a < b) else if g = "<=" then decide (a ≤ b) else if g = ">" then decide (b < a) else decide (b ≤ a)))
  | .txt a, .txt b => .ok (.boo (if g = "<" then ltS a b else if g = "<=" then leS a b else if g = ">" then ltS b a else leS b a))
  | _, _ => .error "not to be compared"
def mOperate (g : Str) (x y : Val) : Res :=
  if g = "+" then mAdd x y
  else if g = "-" ∨ g = "*" ∨ g = "/" then mCalc g x y
  else if g = "==" then .ok (.boo (sameV x y))
  else if g = "!=" then .ok (.boo (!sameV x y))
  else mCmp g x y

/-- what stands at a place: not a place, nothing there, there -/
def place : Val → Val → Except Str (Option Val)
  | .rcd ks l, .txt s => .ok (getK ks l s)
  | .lst l, .num i => .ok (if 0 ≤ i ∧ i < l.length then l[i.toNat]? else none)
  | .txt s, .num i => .ok (if 0 ≤ i ∧ i < s.length then (s.cps.toList[i.toNat]?).map fun c => Val.txt ⟨#[c]⟩ else none)
  | _, _ => .error "not a place"
def mAt (x p : Val) : Res := match place x p with
  | .error m => .error m
  | .ok none => .error "nothing there"
  | .ok (some y) => .ok y
def mField (x : Val) (n : Str) : Res := match x with
  | .rcd ks l => (match getK ks l n with | some y => .ok y | none => .error ("no field " ++ n))
  | _ => .error "not a record"

inductive Fn where
  | length | text | get | keys | min | max
def Fn.name : Fn → Str
  | .length => "length"
  | .text => "text"
  | .get => "get"
  | .keys => "keys"
  | .min => "min"
  | .max => "max"
def Fn.arity : Fn → Nat
  | .length => 1
  | .text => 1
  | .get => 3
  | .keys => 1
  | .min => 2
  | .max => 2
def sortS (ks : List Str) : List Str := ks.mergeSort leS
def mGet (x p d : Val) : Res := match x with
  | .nul => .ok d
  | _ => match place x p with
    | .error m => .error m
    | .ok none => .ok d
    | .ok (some y) => .ok y
def mCall : Fn → List Val → Res
  | .length, [.txt s] => .ok (.num s.length)
  | .length, [.lst l] => .ok (.num l.length)
  | .length, [.rcd ks _] => .ok (.num ks.length)
  | .length, _ => .error "not a list, text or record"
  | .text, [x] => (match textOf x with | some s => .ok (.txt s) | none => .error "not a text")
  | .get, [x, p, d] => mGet x p d
  | .keys, [.rcd ks _] => mMade (.lst ((sortS ks).map Val.txt))
  | .keys, _ => .error "not a record"
  | .min, [.num a, .num b] => .ok (.num (if b < a then b else a))
  | .max, [.num a, .num b] => .ok (.num (if b > a then b else a))
  | _, _ => .error "not a number"

/-! ### expressions -/
inductive Ex where
  | nul | boo (b : Bool) | num (i : Int) | txt (s : Str) | name (s : Str) | bin (g : Str) (a b : Ex) | cho (c a b : Ex) | fld (e : Ex) (n : Str) | itm (e i : Ex) | neg (e : Ex) | nt (e : Ex)
  | fn (f : Fn) (es : List Ex) | lst (es : List Ex) | rcd (ks : List Str) (es : List Ex) | act (n : Str) (es : List Ex) | gat (e : Ex) (x : Str) (l : Ex) | gatIf (e : Ex) (x : Str) (l c : Ex)

/-- one turn of a gathering after the other -/
def gath (f : Val → Except Str (Option Val)) : List Val → Except Str (List Val)
  | [] => .ok []
  | m :: r => match f m with
    | .error e => .error e
    | .ok o => match gath f r with
      | .error e => .error e
      | .ok vs => .ok (match o with | some v => v :: vs | none => vs)
def someR : Res → Except Str (Option Val)
  | .ok v => .ok (some v)
  | .error m => .error m
def mBool : Res → Except Str Bool
  | .ok (.boo b) => .ok b
  | .ok _ => .error "not true or false"
  | .error m => .error m
def isLogic (g : Str) : Bool := decide (g = "&&") || decide (g = "||")

mutual
def evE (o : Int) : Ex → List Str → List Val → Res
  | .nul, _, _ => .ok .nul
  | .boo b, _, _ => .ok (.boo b)
  | .num i, _, _ => .ok (.num i)
  | .txt s, _, _ => .ok (.txt s)
  | .name s, ks, vs => (match getK ks vs s with | some v => .ok v | none => .error "no name")
  | .bin g a b, ks, vs =>
    (match evE o a ks vs with
      | .error m => .error m
      | .ok x => if isLogic g then (match mBool (.ok x) with
          | .error m => .error m
          | .ok p => if p = decide (g = "||") then .ok x else (match mBool (evE o b ks vs) with | .error m => .error m | .ok q => .ok (.boo q)))
        else (match evE o b ks vs with | .error m => .error m | .ok y => mOperate g x y))
  | .cho c a b, ks, vs => (match mBool (evE o c ks vs) with | .error m => .error m | .ok true => evE o a ks vs | .ok false => evE o b ks vs)
  | .fld e n, ks, vs => (match evE o e ks vs with | .error m => .error m | .ok x => mField x n)
  | .itm e i, ks, vs => (match evE o e ks vs with | .error m => .error m | .ok x => match evE o i ks vs with | .error m => .error m | .ok p => mAt x p)
  | .neg e, ks, vs => (match evE o e ks vs with | .error m => .error m | .ok (.num i) => mNum (-i) | .ok _ => .error "not a number")
  | .nt e, ks, vs => (match mBool (evE o e ks vs) with | .error m => .error m | .ok b => .ok (.boo (!b)))
  | .fn f es, ks, vs => (match evEs o es ks vs with | .error m => .error m | .ok xs => mCall f xs)
  | .lst es, ks, vs => (match evEs o es ks vs with | .error m => .error m | .ok xs => mMade (.lst xs))
  | .rcd js es, ks, vs => (match evEs o es ks vs with | .error m => .error m | .ok xs => mMade (.rcd js xs))
  | .act n es, ks, vs => (match evEs o es ks vs with | .error m => .error m | .ok xs => mMade (.act o n xs))
  | .gat e x l, ks, vs => (match evE o l ks vs with
      | .error m => .error m
      | .ok (.lst ms) => (match gath (fun m => someR (evE o e (ks ++ [x]) (vs ++ [m]))) ms with | .error m => .error m | .ok ys => mMade (.lst ys))
      | .ok _ => .error "not a list")
  | .gatIf e x l c, ks, vs => (match evE o l ks vs with
      | .error m => .error m
      | .ok (.lst ms) => (match gath (fun m => match mBool (evE o c (ks ++ [x]) (vs ++ [m])) with
            | .error m => .error m
            | .ok true => someR (evE o e (ks ++ [x]) (vs ++ [m]))
            | .ok false => .ok none) ms with | .error m => .error m | .ok ys => mMade (.lst ys))
      | .ok _ => .error "not a list")
def evEs (o : Int) : List Ex → List Str → List Val → Except Str (List Val)
  | [], _, _ => .ok []
  | e :: r, ks, vs => match evE o e ks vs with
    | .error m => .error m
    | .ok x => match evEs o r ks vs with
      | .error m => .error m
      | .ok xs => .ok (x :: xs)
end

mutual
/-- the depth of an expression -/
def depE : Ex → Nat
  | .bin _ a b => max (depE a) (depE b) + 1
  | .cho c a b => max (depE c) (max (depE a) (depE b)) + 1
  | .fld e _ => depE e + 1
  | .itm e i => max (depE e) (depE i) + 1
  | .neg e => depE e + 1
  | .nt e => depE e + 1
  | .fn _ es => depEs es + 1
  | .lst es => depEs es + 1
  | .rcd _ es => depEs es + 1
  | .act _ es => depEs es + 1
  | .gat e _ l => max (depE e) (depE l) + 1
  | .gatIf e _ l c => max (depE e) (max (depE l) (depE c)) + 1
  | .nul => 1
  | .boo _ => 1
  | .num _ => 1
  | .txt _ => 1
  | .name _ => 1
def depEs : List Ex → Nat
  | [] => 0
  | e :: r => max (depE e) (depEs r)
end

def signs : List Str := ["+", "-", "*", "/", "==", "!=", "<", "<=", ">", ">=", "&&", "||"]
mutual
/-- as a sound program has it: names that are there, functions with their arguments, bounded literals -/
def wfE : Ex → List Str → Bool
  | .nul, _ => true
  | .boo _, _ => true
  | .num i, _ => decide (i.natAbs ≤ 1000000000000000000000000000000)
  | .txt s, _ => decide (s.length ≤ 100)
  | .name s, ns => decide (s ∈ ns)
  | .bin g a b, ns => decide (g ∈ signs) && wfE a ns && wfE b ns
  | .cho c a b, ns => wfE c ns && wfE a ns && wfE b ns
  | .fld e n, ns => wfE e ns && decide (n.length ≤ 100)
  | .itm e i, ns => wfE e ns && wfE i ns
  | .neg e, ns => wfE e ns
  | .nt e, ns => wfE e ns
  | .fn f es, ns => decide (es.length = f.arity) && wfEs es ns
  | .lst es, ns => decide (es.length ≤ 20) && wfEs es ns
  | .rcd ks es, ns => decide ks.Nodup && decide (ks.length = es.length) && decide (ks.length ≤ 20) && okK ks && decide (lens ks ≤ 1000) && wfEs es ns
  | .act n es, ns => decide (es.length ≤ 20) && decide (n.length ≤ 100) && wfEs es ns
  | .gat e x l, ns => decide (x ∉ ns) && wfE e (ns ++ [x]) && wfE l ns
  | .gatIf e x l c, ns => decide (x ∉ ns) && wfE e (ns ++ [x]) && wfE l ns && wfE c (ns ++ [x])
def wfEs : List Ex → List Str → Bool
  | [], _ => true
  | e :: r, ns => wfE e ns && wfEs r ns
end
end K19
/-! How the mirror's values stand on the heap. -/
namespace K19
open PySem PySem.Spec PyProof.Rows L2

mutual
/-- v stands for x, by R (what stands at an address) -/
inductive Rep (R : Addr → HO → Prop) : V → Val → Prop
  | nul : Rep R .non .nul
  | boo (b : Bool) : Rep R (.bl b) (.boo b)
  | num (i : Int) : Rep R (.int i) (.num i)
  | txt (s : Str) : Rep R (.str s) (.txt s)
  | lst {a : Addr} {xs : List V} {l : List Val} : R a (.lst xs) → RepL R xs l → Rep R (.ref a) (.lst l)
  | rcd {a : Addr} {kvs : List (Key × V)} {ks : List Str} {l : List Val} : R a (.dK kvs) → kvs.map (·.1) = ks.map Sum.inr → RepL R (kvs.map (·.2)) l → Rep R (.ref a) (.rcd ks l)
  | act {a b : Addr} {o : Int} {n : Str} {xs : List V} {l : List Val} : R a (.tup [.str "act", .int o, .str n, .ref b]) → R b (.lst xs) → RepL R xs l → Rep R (.ref a) (.act o n l)
inductive RepL (R : Addr → HO → Prop) : List V → List Val → Prop
  | nil : RepL R [] []
  | cons {v : V} {x : Val} {xs : List V} {l : List Val} : Rep R v x → RepL R xs l → RepL R (v :: xs) (x :: l)
end

section
variable {R R' : Addr → HO → Prop}
mutual
theorem Rep.mono (f : ∀ a u, R a u → R' a u) : ∀ {v : V} {x : Val}, Rep R v x → Rep R' v x
  | _, _, .nul => .nul
  | _, _, .boo b => .boo b
  | _, _, .num i => .num i
  | _, _, .txt s => .txt s
  | _, _, .lst h r => .lst (f _ _ h) (r.mono f)
  | _, _, .rcd h k r => .rcd (f _ _ h) k (r.mono f)
  | _, _, .act h g r => .act (f _ _ h) (f _ _ g) (r.mono f)
theorem RepL.mono (f : ∀ a u, R a u → R' a u) : ∀ {xs : List V} {l : List Val}, RepL R xs l → RepL R' xs l
  | _, _, .nil => .nil
  | _, _, .cons h r => .cons (h.mono f) (r.mono f)
end
theorem RepL.length : ∀ {xs : List V} {l : List Val}, RepL R xs l → xs.length = l.length
  | _, _, .nil => rfl
  | _, _, .cons _ rest => by simp [rest.length]
theorem RepL.get : ∀ {xs : List V} {l : List Val} {i : Nat} {v : V}, RepL R xs l → xs[i]? = some v → ∃ x, l[i]? = some x ∧ Rep R v x
  | _, _, _, _, .nil, none_ => by simp at none_
  | _, _, 0, _, .cons h _, e => by simp at e; subst e; exact ⟨_, rfl, h⟩
  | _, _, i + 1, _, .cons _ r, e => by
    obtain ⟨x, h1, h2⟩ := r.get (i := i) (by simpa using e)
    exact ⟨x, (by simpa using h1), h2⟩
theorem RepL.get' : ∀ {xs : List V} {l : List Val} {i : Nat} {x : Val}, RepL R xs l → l[i]? = some x → ∃ v, xs[i]? = some v ∧ Rep R v x
  | _, _, _, _, .nil, none_ => by simp at none_
  | _, _, 0, _, .cons h _, e => by simp at e; subst e; exact ⟨_, rfl, h⟩
  | _, _, i + 1, _, .cons _ r, e => by
    obtain ⟨x, h1, h2⟩ := r.get' (i := i) (by simpa using e)
    exact ⟨x, (by simpa using h1), h2⟩
theorem RepL.append : ∀ {xs ys : List V} {l m : List Val}, RepL R xs l → RepL R ys m → RepL R (xs ++ ys) (l ++ m)
  | _, _, _, _, .nil, s => s
  | _, _, _, _, .cons h r, s => .cons h (r.append s)
theorem RepL.take : ∀ {xs : List V} {l : List Val} (n : Nat), RepL R xs l → RepL R (xs.take n) (l.take n)
  | _, _, 0, _ => .nil
  | _, _, _ + 1, .nil => .nil
  | _, _, n + 1, .cons h r => .cons h (r.take n)
theorem RepL.snoc {xs : List V} {l : List Val} {v : V} {x : Val} (h : RepL R xs l) (g : Rep R v x) : RepL R (xs ++ [v]) (l ++ [x]) := h.append (.cons g .nil)
/-- what a record holds under a name -/
theorem RepL.val : ∀ {kvs : List (Key × V)} {ks : List Str} {l : List Val} (k : Str), kvs.map (·.1) = ks.map Sum.inr → RepL R (kvs.map (·.2)) l →
    (∃ v x, valV kvs (Sum.inr k) = some v ∧ getK ks l k = some x ∧ Rep R v x) ∨ (valV kvs (Sum.inr k) = none ∧ getK ks l k = none)
  | [], ks, l, k, e, h => by
    cases ks with
    | nil =>
      cases h
      exact .inr ⟨rfl, rfl⟩
    | cons _ _ => simp at e
  | (j, v) :: r, ks, l, k, e, h => by
    cases ks with
    | nil => simp at e
    | cons i is =>
      simp only [List.map_cons, List.cons.injEq] at e; obtain ⟨e1, e2⟩ := e
      subst e1
      cases h with
      | @cons _ x _ l h1 h2 =>
        by_cases c : i = k
        · subst c
          refine .inl ⟨v, x, ?_, ?_, h1⟩
          · simp [valV]
          · simp [getK]
        · have q := RepL.val (kvs := r) (ks := is) (l := l) k e2 h2
          have n1 : valV ((Sum.inr i, v) :: r) (Sum.inr k : Key) = valV r (Sum.inr k) := by simp [valV, c]
          have n2 : getK (i :: is) (x :: l) k = getK is l k := by simp [getK, c]
          rw [n1, n2]
          exact q
theorem getK_some {ks : List Str} : ∀ {l : List Val} {k : Str}, ks.length = l.length → k ∈ ks → ∃ x, getK ks l k = some x := by
  induction ks with
  | nil => intro l k _ h; cases h
  | cons j r ih =>
    intro l k e h
    cases l with
    | nil => simp at e
    | cons y l =>
      by_cases c : j = k
      · exact ⟨y, by simp [getK, c]⟩
      · obtain ⟨x, hx⟩ := ih (l := l) (k := k) (by simpa using e) (by
          exact (List.mem_cons.mp h).resolve_left fun z => c z.symm)
        exact ⟨x, by simp [getK, c, hx]⟩
end

/-- what stands at an address, as it is -/
abbrev At (H : Hp) : Addr → HO → Prop := fun a u => H a = some u
theorem Rep.same {H H' : Hp} (s : Same H H') {v : V} {x : Val} (h : Rep (At H) v x) : Rep (At H') v x := h.mono fun a u e => s a u e
theorem RepL.same {H H' : Hp} (s : Same H H') {v : List V} {x : List Val} (h : RepL (At H) v x) : RepL (At H') v x := h.mono fun a u e => s a u e
theorem Rep.rd {H : Hp} {v : V} {x : Val} (h : Rep (At H) v x) : Rep (Rd H) v x := h.mono fun a u e => .inl e
theorem RepL.rd {H : Hp} {v : List V} {x : List Val} (h : RepL (At H) v x) : RepL (Rd H) v x := h.mono fun a u e => .inl e
theorem rd_same {H H' : Hp} (s : Same H H') {a : Addr} {u : HO} (h : Rd H a u) : Rd H' a u := by
  rcases h with h | ⟨o, h⟩
  · exact .inl (s _ _ h)
  · exact .inr ⟨o, s _ _ h⟩
theorem Rep.rds {H H' : Hp} (s : Same H H') {v : V} {x : Val} (h : Rep (Rd H) v x) : Rep (Rd H') v x := h.mono fun a u e => rd_same s e
theorem RepL.rds {H H' : Hp} (s : Same H H') {v : List V} {x : List Val} (h : RepL (Rd H) v x) : RepL (Rd H') v x := h.mono fun a u e => rd_same s e
theorem same_new {H : Hp} {p : Addr} (h : H p = none) (o : HO) : Same H (upd H p o) := fun b u q => by rw [upd_ne (ne_of_none q h)]; exact q
theorem same_snoc {H H' : Hp} (s : Same H H') {p : Addr} (h : H' p = none) (o : HO) : Same H (upd H' p o) := s.trans (same_new h o)

/-! ### one thing at an address -/
theorem v_inr {ks js : List Str} (h : ks.map (Sum.inr : Str → Key) = js.map Sum.inr) : ks = js := by
  induction ks generalizing js with
  | nil => cases js with
    | nil => rfl
    | cons _ _ => simp at h
  | cons k r ih => cases js with
    | nil => simp at h
    | cons j s =>
      simp only [List.map_cons, List.cons.injEq, Sum.inr.injEq] at h
      rw [h.1, ih h.2]
section
variable {R : Addr → HO → Prop} (f : ∀ a u u', R a u → R a u' → u = u')
include f
mutual
theorem Rep.det : ∀ {v : V} {x y : Val}, Rep R v x → Rep R v y → x = y
  | _, _, _, .nul, .nul => rfl
  | _, _, _, .boo _, .boo _ => rfl
  | _, _, _, .num _, .num _ => rfl
  | _, _, _, .txt _, .txt _ => rfl
  | _, _, _, .lst h r, .lst h' r' => by
    have e := f _ _ _ h h'
    injection e with e
    subst e
    rw [r.det r']
  | _, _, _, .lst h r, .rcd h' _ _ => by cases f _ _ _ h h'
  | _, _, _, .lst h r, .act h' _ _ => by cases f _ _ _ h h'
  | _, _, _, .rcd h k r, .lst h' _ => by cases f _ _ _ h h'
  | _, _, _, .rcd h k r, .rcd h' k' r' => by
    have e := f _ _ _ h h'
    injection e with e
    subst e
    rw [r.det r', v_inr (k.symm.trans k')]
  | _, _, _, .rcd h k r, .act h' _ _ => by cases f _ _ _ h h'
  | _, _, _, .act h g r, .lst h' _ => by cases f _ _ _ h h'
  | _, _, _, .act h g r, .rcd h' _ _ => by cases f _ _ _ h h'
  | _, _, _, .act h g r, .act h' g' r' => by
    have e := f _ _ _ h h'
    injection e with e
    simp only [List.cons.injEq, V.int.injEq, V.str.injEq, V.ref.injEq, true_and, and_true] at e
    obtain ⟨e1, e2, e3⟩ := e
    subst e1 e2 e3
    have e := f _ _ _ g g'
    injection e with e
    subst e
    rw [r.det r']
theorem RepL.det : ∀ {v : List V} {x y : List Val}, RepL R v x → RepL R v y → x = y
  | _, _, _, .nil, .nil => rfl
  | _, _, _, .cons h r, .cons h' r' => by rw [h.det h', r.det r']
end
end
theorem at_det {H : Hp} (a : Addr) (u u' : HO) (h : At H a u) (h' : At H a u') : u = u' := Option.some.inj (h.symm.trans h')

/-! ### a dict is locked while it is walked: what stands under it does not change -/
section
variable {H : Hp} {d : Addr} {o : HO} {z : Val}
mutual
theorem Rep.under (hz : Rep (At H) (.ref d) z) : ∀ {v : V} {x : Val}, Rep (At H) v x → depthV x < depthV z → Rep (At (upd H d o)) v x
  | _, _, .nul, _ => .nul
  | _, _, .boo b, _ => .boo b
  | _, _, .num i, _ => .num i
  | _, _, .txt s, _ => .txt s
  | _, _, .lst (a := a) (l := l) h r, q => by
    have ne : a ≠ d := fun e => by
      subst e
      have := Rep.det (at_det (H := H)) hz (.lst h r)
      rw [this] at q
      exact absurd q (Nat.lt_irrefl _)
    refine .lst ((upd_ne ne).trans h) (RepL.under hz r ?_)
    simp only [depthV] at q
    omega
  | _, _, .rcd (a := a) (l := l) h k r, q => by
    have ne : a ≠ d := fun e => by
      subst e
      have := Rep.det (at_det (H := H)) hz (.rcd h k r)
      rw [this] at q
      exact absurd q (Nat.lt_irrefl _)
    refine .rcd ((upd_ne ne).trans h) k (RepL.under hz r ?_)
    simp only [depthV] at q
    omega
  | _, _, .act (a := a) (b := b) (o := oo) (n := n) (l := l) h g r, q => by
    have ne : a ≠ d := fun e => by
      subst e
      have := Rep.det (at_det (H := H)) hz (.act h g r)
      rw [this] at q
      exact absurd q (Nat.lt_irrefl _)
    simp only [depthV] at q
    have ne' : b ≠ d := fun e => by
      subst e
      have := Rep.det (at_det (H := H)) hz (.lst g r)
      rw [this] at q
      simp only [depthV] at q
      omega
    exact .act ((upd_ne ne).trans h) ((upd_ne ne').trans g) (RepL.under hz r (by omega))
theorem RepL.under (hz : Rep (At H) (.ref d) z) : ∀ {v : List V} {x : List Val}, RepL (At H) v x → depthL x < depthV z → RepL (At (upd H d o)) v x
  | _, _, .nil, _ => .nil
  | _, _, .cons h r, q => by
    simp only [depthL] at q
    exact .cons (Rep.under hz h (by omega)) (RepL.under hz r (by omega))
end
end
/-! ### a value of its own: the addresses it is made of -/
mutual
inductive Own (H : Hp) : V → Val → List Addr → Prop
  | nul : Own H .non .nul []
  | boo (b : Bool) : Own H (.bl b) (.boo b) []
  | num (i : Int) : Own H (.int i) (.num i) []
  | txt (s : Str) : Own H (.str s) (.txt s) []
  | lst {a : Addr} {xs : List V} {l : List Val} {F : List Addr} : H a = some (.lst xs) → OwnL H xs l F → Own H (.ref a) (.lst l) (a :: F)
  | rcd {a : Addr} {kvs : List (Key × V)} {ks : List Str} {l : List Val} {F : List Addr} : H a = some (.dK kvs) → kvs.map (·.1) = ks.map Sum.inr → OwnL H (kvs.map (·.2)) l F → Own H (.ref a) (.rcd ks l) (a :: F)
  | act {a b : Addr} {o : Int} {n : Str} {xs : List V} {l : List Val} {F : List Addr} : H a = some (.tup [.str "act", .int o, .str n, .ref b]) → H b = some (.lst xs) → OwnL H xs l F → Own H (.ref a) (.act o n l) (a :: b :: F)
inductive OwnL (H : Hp) : List V → List Val → List Addr → Prop
  | nil : OwnL H [] [] []
  | cons {v : V} {x : Val} {xs : List V} {l : List Val} {F G : List Addr} : Own H v x F → OwnL H xs l G → OwnL H (v :: xs) (x :: l) (F ++ G)
end
section
variable {H H' : Hp}
mutual
theorem Own.keep : ∀ {v : V} {x : Val} {F : List Addr}, Own H v x F → (∀ a ∈ F, H' a = H a) → Own H' v x F
  | _, _, _, .nul, _ => .nul
  | _, _, _, .boo b, _ => .boo b
  | _, _, _, .num i, _ => .num i
  | _, _, _, .txt s, _ => .txt s
  | _, _, _, .lst h r, k => .lst ((k _ (by simp)).trans h) (r.keep fun b hb => k b (by simp [hb]))
  | _, _, _, .rcd h e r, k => .rcd ((k _ (by simp)).trans h) e (r.keep fun b hb => k b (by simp [hb]))
  | _, _, _, .act h g r, k => .act ((k _ (by simp)).trans h) ((k _ (by simp)).trans g) (r.keep fun b hb => k b (by simp [hb]))
theorem OwnL.keep : ∀ {v : List V} {x : List Val} {F : List Addr}, OwnL H v x F → (∀ a ∈ F, H' a = H a) → OwnL H' v x F
  | _, _, _, .nil, _ => .nil
  | _, _, _, .cons h r, k => .cons (h.keep fun b hb => k b (by simp [hb])) (r.keep fun b hb => k b (by simp [hb]))
end
mutual
theorem Own.there : ∀ {v : V} {x : Val} {F : List Addr}, Own H v x F → ∀ a ∈ F, H a ≠ none
  | _, _, _, .nul, _, q => nomatch q
  | _, _, _, .boo b, _, q => nomatch q
  | _, _, _, .num i, _, q => nomatch q
  | _, _, _, .txt s, _, q => nomatch q
  | _, _, _, .lst h r, b, q => by
    rcases List.mem_cons.mp q with e | e
    · rw [e, h]; simp
    · exact r.there b e
  | _, _, _, .rcd h _ r, b, q => by
    rcases List.mem_cons.mp q with e | e
    · rw [e, h]; simp
    · exact r.there b e
  | _, _, _, .act h g r, b, q => by
    rcases List.mem_cons.mp q with e | e
    · rw [e, h]; simp
    · rcases List.mem_cons.mp e with e2 | e2
      · rw [e2, g]; simp
      · exact r.there b e2
theorem OwnL.there : ∀ {v : List V} {x : List Val} {F : List Addr}, OwnL H v x F → ∀ a ∈ F, H a ≠ none
  | _, _, _, .nil, _, q => nomatch q
  | _, _, _, .cons h r, b, q => by
    rcases List.mem_append.mp q with e | e
    · exact h.there b e
    · exact r.there b e
end
mutual
theorem Own.rep : ∀ {v : V} {x : Val} {F : List Addr}, Own H v x F → Rep (fun a u => a ∈ F ∧ H a = some u) v x
  | _, _, _, .nul => .nul
  | _, _, _, .boo b => .boo b
  | _, _, _, .num i => .num i
  | _, _, _, .txt s => .txt s
  | _, _, _, .lst h r => .lst ⟨by simp, h⟩ (r.rep.mono fun a u e => ⟨by simp [e.1], e.2⟩)
  | _, _, _, .rcd h k r => .rcd ⟨by simp, h⟩ k (r.rep.mono fun a u e => ⟨by simp [e.1], e.2⟩)
  | _, _, _, .act h g r => .act ⟨by simp, h⟩ ⟨by simp, g⟩ (r.rep.mono fun a u e => ⟨by simp [e.1], e.2⟩)
theorem OwnL.rep : ∀ {v : List V} {x : List Val} {F : List Addr}, OwnL H v x F → RepL (fun a u => a ∈ F ∧ H a = some u) v x
  | _, _, _, .nil => .nil
  | _, _, _, .cons h r => .cons (h.rep.mono fun a u e => ⟨by simp [e.1], e.2⟩) (r.rep.mono fun a u e => ⟨by simp [e.1], e.2⟩)
end
theorem Own.at_ {v : V} {x : Val} {F : List Addr} (h : Own H v x F) : Rep (At H) v x := h.rep.mono fun a u e => e.2
theorem OwnL.at_ {v : List V} {x : List Val} {F : List Addr} (h : OwnL H v x F) : RepL (At H) v x := h.rep.mono fun a u e => e.2
theorem Own.same {v : V} {x : Val} {F : List Addr} (h : Own H v x F) (s : Same H H') : Own H' v x F := h.keep fun a ha => by
  have := h.there a ha
  cases e : H a with
  | none => exact absurd e this
  | some o => exact s a o e
theorem OwnL.same {v : List V} {x : List Val} {F : List Addr} (h : OwnL H v x F) (s : Same H H') : OwnL H' v x F := h.keep fun a ha => by
  have := h.there a ha
  cases e : H a with
  | none => exact absurd e this
  | some o => exact s a o e
theorem OwnL.append : ∀ {xs ys : List V} {l m : List Val} {F G : List Addr}, OwnL H xs l F → OwnL H ys m G → OwnL H (xs ++ ys) (l ++ m) (F ++ G)
  | _, _, _, _, _, _, .nil, s => s
  | _, _, _, _, _, _, .cons h r, s => by
    rw [List.append_assoc]
    exact .cons h (r.append s)
theorem OwnL.get : ∀ {xs : List V} {l : List Val} {F : List Addr} {i : Nat} {v : V}, OwnL H xs l F → xs[i]? = some v → ∃ x G, l[i]? = some x ∧ Own H v x G ∧ G.Sublist F
  | _, _, _, _, _, .nil, e => by simp at e
  | _, _, _, 0, _, .cons h r, e => by
    simp at e
    subst e
    exact ⟨_, _, rfl, h, List.sublist_append_left _ _⟩
  | _, _, _, i + 1, _, .cons h r, e => by
    obtain ⟨x, G, h1, h2, h3⟩ := r.get (i := i) (by simpa using e)
    exact ⟨x, G, by simpa using h1, h2, h3.trans (List.sublist_append_right _ _)⟩
end
/-- r stands for x in H', made since H, nothing of it twice -/
def Fresh (H H' : Hp) (r : V) (x : Val) : Prop := ∃ F : List Addr, Own H' r x F ∧ F.Nodup ∧ ∀ a ∈ F, H a = none
/-- what is free is free before -/
def Gr (H H' : Hp) : Prop := ∀ a, H' a = none → H a = none
theorem Gr.of {H H' : Hp} (s : Same H H') : Gr H H' := fun a h => s.free h
theorem Gr.trans {H H1 H2 : Hp} (s : Gr H H1) (t : Gr H1 H2) : Gr H H2 := fun a h => s a (t a h)
theorem Gr.upd {H H' : Hp} (s : Gr H H') (D : Addr) (o : HO) : Gr H (L2.upd H' D o) := fun a h => by
  by_cases e : a = D
  · rw [e, upd_same] at h
    cases h
  · rw [upd_ne e] at h
    exact s a h
theorem Gr.updL {H H' : Hp} (s : Gr H H') {D : Addr} {o : HO} (h : H' D ≠ none) : Gr (L2.upd H D o) H' := fun a q => by
  by_cases e : a = D
  · rw [e] at q
    exact absurd q h
  · rw [upd_ne e]
    exact s a q
def FreshL (H H' : Hp) (r : List V) (x : List Val) : Prop := ∃ F : List Addr, OwnL H' r x F ∧ F.Nodup ∧ ∀ a ∈ F, H a = none
section
variable {H0 H H' H'' : Hp} {v : V} {x : Val} {xs : List V} {l : List Val}
theorem Fresh.at_ (h : Fresh H H' v x) : Rep (At H') v x := h.choose_spec.1.at_
theorem FreshL.at_ (h : FreshL H H' xs l) : RepL (At H') xs l := h.choose_spec.1.at_
theorem Fresh.same (h : Fresh H H' v x) (s : Same H' H'') : Fresh H H'' v x := let ⟨F, o, n, f⟩ := h; ⟨F, o.same s, n, f⟩
theorem FreshL.same (h : FreshL H H' xs l) (s : Same H' H'') : FreshL H H'' xs l := let ⟨F, o, n, f⟩ := h; ⟨F, o.same s, n, f⟩
theorem Fresh.back (h : Fresh H H' v x) (s : Same H0 H) : Fresh H0 H' v x := let ⟨F, o, n, f⟩ := h; ⟨F, o, n, fun a ha => s.free (f a ha)⟩
theorem FreshL.back (h : FreshL H H' xs l) (s : Same H0 H) : FreshL H0 H' xs l := let ⟨F, o, n, f⟩ := h; ⟨F, o, n, fun a ha => s.free (f a ha)⟩
theorem FreshL.nil : FreshL H H' [] [] := ⟨[], .nil, List.nodup_nil, fun _ h => nomatch h⟩
/-- first these, then one more made later -/
theorem FreshL.snoc (h : FreshL H0 H xs l) (s0 : Gr H0 H) (g : Fresh H H' v x) (s : Same H H') : FreshL H0 H' (xs ++ [v]) (l ++ [x]) := by
  obtain ⟨F, o, n, f⟩ := h
  obtain ⟨G, p, m, k⟩ := g
  refine ⟨F ++ (G ++ []), (o.same s).append (.cons p .nil), ?_, fun a ha => ?_⟩
  · rw [List.append_nil]
    refine List.nodup_append.mpr ⟨n, m, fun a ha b hb e => ?_⟩
    subst e
    exact o.there a ha (k a hb)
  · rw [List.append_nil] at ha
    rcases List.mem_append.mp ha with q | q
    · exact f a q
    · exact s0 a (k a q)
theorem FreshL.join {ys : List V} {m : List Val} (h : FreshL H0 H xs l) (s0 : Gr H0 H) (g : FreshL H H' ys m) (s : Same H H') : FreshL H0 H' (xs ++ ys) (l ++ m) := by
  obtain ⟨F, o, n, f⟩ := h
  obtain ⟨G, p, m, k⟩ := g
  refine ⟨F ++ G, (o.same s).append p, ?_, fun a ha => ?_⟩
  · refine List.nodup_append.mpr ⟨n, m, fun a ha b hb e => ?_⟩
    subst e
    exact o.there a ha (k a hb)
  · rcases List.mem_append.mp ha with q | q
    · exact f a q
    · exact s0 a (k a q)
end
theorem Fresh.nul {H H' : Hp} : Fresh H H' .non .nul := ⟨[], .nul, List.nodup_nil, fun _ h => nomatch h⟩
theorem Fresh.boo {H H' : Hp} (b : Bool) : Fresh H H' (.bl b) (.boo b) := ⟨[], .boo b, List.nodup_nil, fun _ h => nomatch h⟩
theorem Fresh.num {H H' : Hp} (i : Int) : Fresh H H' (.int i) (.num i) := ⟨[], .num i, List.nodup_nil, fun _ h => nomatch h⟩
theorem Fresh.txt {H H' : Hp} (s : Str) : Fresh H H' (.str s) (.txt s) := ⟨[], .txt s, List.nodup_nil, fun _ h => nomatch h⟩
/-- what may be mutated at D, new since H -/
theorem same_mut {H H' : Hp} (e : Same H H') {p : Addr} (h : H p = none) (o : HO) : Same H (upd H' p o) := fun a u ha => by
  rw [upd_ne (ne_of_none ha h)]
  exact e a u ha
end K19
/-! The text by places; what the top has written. -/
namespace K19
open PySem PySem.Spec PyProof.Rows L2
def topS (i : Nat) : Stmt := PySem.Challenge.pw_viewloom_k19_whole_expressions.main.body.getD i (.Pass ⟨0, 0, 0, 0⟩)
abbrev s_kind_of_value : Stmt := topS 4
abbrev nm_kind_of_value : List Str := ["value"]
abbrev s_parts_of : Stmt := topS 5
abbrev nm_parts_of : List Str := ["value", "kind", "name"]
abbrev s_same : Stmt := topS 6
abbrev nm_same : List Str := ["first", "second", "kind"]
abbrev s_same_members : Stmt := topS 7
abbrev nm_same_members : List Str := ["first", "second", "index"]
abbrev s_same_fields : Stmt := topS 8
abbrev nm_same_fields : List Str := ["first", "second", "name"]
abbrev s_depth : Stmt := topS 9
abbrev nm_depth : List Str := ["value", "greatest", "part"]
abbrev s_size : Stmt := topS 10
abbrev nm_size : List Str := ["value", "total", "part", "kind", "name"]
abbrev s_text_of : Stmt := topS 11
abbrev nm_text_of : List Str := ["value", "kind"]
abbrev s_copied : Stmt := topS 12
abbrev nm_copied : List Str := ["value", "kind", "part", "name"]
abbrev s_bounded_number : Stmt := topS 19
abbrev nm_bounded_number : List Str := ["number"]
abbrev s_bounded_text : Stmt := topS 20
abbrev nm_bounded_text : List Str := ["text"]
abbrev s_bounded : Stmt := topS 21
abbrev nm_bounded : List Str := ["value"]
abbrev s_need_boolean : Stmt := topS 23
abbrev nm_need_boolean : List Str := ["value"]
abbrev s_need_number : Stmt := topS 24
abbrev nm_need_number : List Str := ["value"]
abbrev s_need_text : Stmt := topS 25
abbrev nm_need_text : List Str := ["value"]
abbrev s_need_list : Stmt := topS 26
abbrev nm_need_list : List Str := ["value"]
abbrev s_need_record : Stmt := topS 27
abbrev nm_need_record : List Str := ["value"]
abbrev s_need_row : Stmt := topS 28
abbrev nm_need_row : List Str := ["value"]
abbrev s_field_of : Stmt := topS 30
abbrev nm_field_of : List Str := ["value", "name"]
abbrev s_has_place : Stmt := topS 31
abbrev nm_has_place : List Str := ["value", "place", "kinds"]
abbrev s_at_place : Stmt := topS 32
abbrev nm_at_place : List Str := ["value", "place"]
abbrev s_length_of : Stmt := topS 36
abbrev nm_length_of : List Str := ["arguments"]
abbrev s_text_from : Stmt := topS 37
abbrev nm_text_from : List Str := ["arguments", "text"]
abbrev s_number_from : Stmt := topS 38
abbrev nm_number_from : List Str := ["arguments", "text", "digits", "char", "number"]
abbrev s_slice_of : Stmt := topS 39
abbrev nm_slice_of : List Str := ["arguments", "row", "start", "stop"]
abbrev s_find_in : Stmt := topS 40
abbrev nm_find_in : List Str := ["arguments", "row", "index", "member"]
abbrev s_get_from : Stmt := topS 41
abbrev nm_get_from : List Str := ["arguments", "value", "place", "other"]
abbrev s_join_all : Stmt := topS 42
abbrev nm_join_all : List Str := ["arguments", "members", "between", "member"]
abbrev s_split_text : Stmt := topS 43
abbrev nm_split_text : List Str := ["arguments", "text", "between"]
abbrev s_keys_of : Stmt := topS 44
abbrev nm_keys_of : List Str := ["arguments"]
abbrev s_sorted_list : Stmt := topS 45
abbrev nm_sorted_list : List Str := ["arguments", "members", "kinds", "member"]
abbrev s_range_to : Stmt := topS 46
abbrev nm_range_to : List Str := ["arguments", "number", "index"]
abbrev s_quotient : Stmt := topS 47
abbrev nm_quotient : List Str := ["first", "second", "found"]
abbrev s_rest_of : Stmt := topS 48
abbrev nm_rest_of : List Str := ["arguments", "first", "second"]
abbrev s_least_of : Stmt := topS 49
abbrev nm_least_of : List Str := ["arguments"]
abbrev s_greatest_of : Stmt := topS 50
abbrev nm_greatest_of : List Str := ["arguments"]
abbrev s_call_function : Stmt := topS 52
abbrev nm_call_function : List Str := ["name", "arguments", "function"]
abbrev s_add : Stmt := topS 54
abbrev nm_add : List Str := ["first", "second", "kinds", "left", "right"]
abbrev s_calculate : Stmt := topS 55
abbrev nm_calculate : List Str := ["sign", "first", "second", "left", "right"]
abbrev s_compare : Stmt := topS 56
abbrev nm_compare : List Str := ["sign", "first", "second", "kinds"]
abbrev s_operate : Stmt := topS 57
abbrev nm_operate : List Str := ["sign", "first", "second"]
abbrev s_evaluate_all : Stmt := topS 59
abbrev nm_evaluate_all : List Str := ["expressions", "environment", "owner", "expression"]
abbrev s_evaluate_binary : Stmt := topS 60
abbrev nm_evaluate_binary : List Str := ["expression", "environment", "owner", "sign", "first"]
abbrev s_evaluate_choice : Stmt := topS 61
abbrev nm_evaluate_choice : List Str := ["expression", "environment", "owner"]
abbrev s_evaluate_gathering : Stmt := topS 62
abbrev nm_evaluate_gathering : List Str := ["expression", "environment", "owner", "found", "member", "inner"]
abbrev s_evaluate_made : Stmt := topS 63
abbrev nm_evaluate_made : List Str := ["expression", "environment", "owner", "record", "name", "part"]
abbrev s_evaluate_part : Stmt := topS 64
abbrev nm_evaluate_part : List Str := ["expression", "environment", "owner", "first"]
abbrev s_evaluate : Stmt := topS 65
abbrev nm_evaluate : List Str := ["expression", "environment", "owner", "word"]
abbrev s_l_cell : Stmt := topS 67
abbrev nm_l_cell : List Str := ["_law_script", "_law_k"]
abbrev s_l_start : Stmt := topS 68
abbrev nm_l_start : List Str := ["_law_cell_here", "_law_k", "_law_prime", "_law_mixed"]
abbrev s_l_digit : Stmt := topS 69
abbrev nm_l_digit : List Str := ["_law_state", "_law_many_here", "_law_digit_here"]
abbrev s_l_text : Stmt := topS 70
abbrev nm_l_text : List Str := ["_law_state", "_law_many_here", "_law_text_here", "_law_k"]
abbrev s_l_number : Stmt := topS 71
abbrev nm_l_number : List Str := ["_law_state", "_law_choice", "_law_great"]
abbrev s_l_value : Stmt := topS 72
abbrev nm_l_value : List Str := ["_law_state", "_law_levels", "_law_kind_here", "_law_many_here", "_law_record", "_law_k", "_law_owner", "_law_name"]
abbrev s_l_kind : Stmt := topS 73
abbrev nm_l_kind : List Str := ["_law_value_here"]
abbrev s_l_same : Stmt := topS 74
abbrev nm_l_same : List Str := ["_law_first", "_law_second", "_law_kind_here", "_law_k", "_law_name"]
abbrev s_l_parts : Stmt := topS 75
abbrev nm_l_parts : List Str := ["_law_value_here", "_law_kind_here", "_law_name"]
abbrev s_l_depth : Stmt := topS 76
abbrev nm_l_depth : List Str := ["_law_value_here", "_law_part"]
abbrev s_l_size : Stmt := topS 77
abbrev nm_l_size : List Str := ["_law_value_here", "_law_kind_here", "_law_own", "_law_part", "_law_name"]
abbrev s_l_text_of : Stmt := topS 78
abbrev nm_l_text_of : List Str := ["_law_value_here", "_law_kind_here"]
abbrev s_l_made : Stmt := topS 79
abbrev nm_l_made : List Str := ["_law_value_here"]
abbrev s_l_bounded : Stmt := topS 80
abbrev nm_l_bounded : List Str := ["_law_number_here"]
abbrev s_l_joined : Stmt := topS 81
abbrev nm_l_joined : List Str := ["_law_text_here"]
abbrev s_l_quotient : Stmt := topS 82
abbrev nm_l_quotient : List Str := ["_law_first", "_law_second", "_law_whole"]
abbrev s_l_sum : Stmt := topS 83
abbrev nm_l_sum : List Str := ["_law_first", "_law_second", "_law_kinds", "_law_left", "_law_right_here"]
abbrev s_l_operate : Stmt := topS 84
abbrev nm_l_operate : List Str := ["_law_sign", "_law_first", "_law_second", "_law_kinds"]
abbrev s_l_at : Stmt := topS 85
abbrev nm_l_at : List Str := ["_law_value_here", "_law_place", "_law_kinds"]
abbrev s_l_field : Stmt := topS 86
abbrev nm_l_field : List Str := ["_law_value_here", "_law_name"]
abbrev s_l_call : Stmt := topS 87
abbrev nm_l_call : List Str := ["_law_name", "_law_arguments", "_law_first", "_law_kind_here", "_law_found"]
abbrev s_l_evaluated : Stmt := topS 88
abbrev nm_l_evaluated : List Str := ["_law_expression_here", "_law_environment_here", "_law_owner", "e"]
abbrev s_l_right : Stmt := topS 89
abbrev nm_l_right : List Str := ["_law_told", "_law_due"]
abbrev s_l_literal : Stmt := topS 90
abbrev nm_l_literal : List Str := ["_law_state", "_law_want", "_law_number_here"]
abbrev s_l_leaf : Stmt := topS 91
abbrev nm_l_leaf : List Str := ["_law_state", "_law_want", "_law_bound", "_law_choice", "_law_names"]
abbrev s_l_function : Stmt := topS 92
abbrev nm_l_function : List Str := ["_law_state", "_law_levels", "_law_want", "_law_bound", "_law_names", "_law_name", "_law_kinds", "_law_kind_here"]
abbrev s_l_many : Stmt := topS 93
abbrev nm_l_many : List Str := ["_law_state", "_law_levels", "_law_bound", "_law_k"]
abbrev s_l_made_of : Stmt := topS 94
abbrev nm_l_made_of : List Str := ["_law_state", "_law_levels", "_law_want", "_law_bound", "_law_name", "_law_when", "_law_given", "_law_names"]
abbrev s_l_signed : Stmt := topS 95
abbrev nm_l_signed : List Str := ["_law_state", "_law_levels", "_law_want", "_law_bound", "_law_sign", "_law_kind_here", "_law_left"]
abbrev s_l_expression : Stmt := topS 96
abbrev nm_l_expression : List Str := ["_law_state", "_law_levels", "_law_want", "_law_bound", "_law_choice", "_law_when", "_law_first", "_law_row"]
abbrev s_l_environment : Stmt := topS 97
abbrev nm_l_environment : List Str := ["_law_state", "_law_environment_here", "_law_k"]
abbrev s_l_all : Stmt := topS 98
abbrev nm_l_all : List Str := ["_law_parts_here", "_law_environment_here", "_law_owner", "_law_values", "_law_part", "_law_found"]
abbrev s_l_boolean : Stmt := topS 99
abbrev nm_l_boolean : List Str := ["_law_found"]
abbrev s_l_gathered : Stmt := topS 100
abbrev nm_l_gathered : List Str := ["_law_expression_here", "_law_environment_here", "_law_owner", "_law_row", "_law_values", "_law_member", "_law_inner", "_law_name", "_law_wanted", "_law_found"]
abbrev s_l_two : Stmt := topS 101
abbrev nm_l_two : List Str := ["_law_expression_here", "_law_environment_here", "_law_owner", "_law_first", "_law_second"]
abbrev s_l_one : Stmt := topS 102
abbrev nm_l_one : List Str := ["_law_expression_here", "_law_environment_here", "_law_owner", "_law_first", "_law_place"]
abbrev s_l_written : Stmt := topS 103
abbrev nm_l_written : List Str := ["_law_expression_here", "_law_environment_here", "_law_owner", "_law_values", "_law_record", "_law_k", "_law_pair"]
abbrev s_l_eval : Stmt := topS 104
abbrev nm_l_eval : List Str := ["_law_expression_here", "_law_environment_here", "_law_owner", "_law_word", "_law_when"]
abbrev s_l_spoil : Stmt := topS 105
abbrev nm_l_spoil : List Str := ["_law_value_here", "_law_kind_here", "_law_part"]
abbrev s_l_law : Stmt := topS 106
abbrev nm_l_law : List Str := ["_law_script", "_law_k", "_law_environment_here", "_law_kept", "_law_j", "_law_state", "_law_want", "_law_expression_here", "_law_owner", "_law_told"]
/-- a def as the top has left it -/
structure Def (K : PySem.W.Frag) (mg : Str → Option Value) (x : Str) (st : Stmt) (f : Addr) (fd : FuncData) (ps : List Str) : Prop where
  g : mg x = some (.ref f)
  F : Fun K x x st f fd
  b : Binds K fd ps []
structure Ads where
  kind_of_value : Addr
  kind_of_value_d : FuncData
  parts_of : Addr
  parts_of_d : FuncData
  same : Addr
  same_d : FuncData
  same_members : Addr
  same_members_d : FuncData
  same_fields : Addr
  same_fields_d : FuncData
  depth : Addr
  depth_d : FuncData
  size : Addr
  size_d : FuncData
  text_of : Addr
  text_of_d : FuncData
  copied : Addr
  copied_d : FuncData
  bounded_number : Addr
  bounded_number_d : FuncData
  bounded_text : Addr
  bounded_text_d : FuncData
  bounded : Addr
  bounded_d : FuncData
  need_boolean : Addr
  need_boolean_d : FuncData
  need_number : Addr
  need_number_d : FuncData
  need_text : Addr
  need_text_d : FuncData
  need_list : Addr
  need_list_d : FuncData
  need_record : Addr
  need_record_d : FuncData
  need_row : Addr
  need_row_d : FuncData
  field_of : Addr
  field_of_d : FuncData
  has_place : Addr
  has_place_d : FuncData
  at_place : Addr
  at_place_d : FuncData
  length_of : Addr
  length_of_d : FuncData
  text_from : Addr
  text_from_d : FuncData
  number_from : Addr
  number_from_d : FuncData
  slice_of : Addr
  slice_of_d : FuncData
  find_in : Addr
  find_in_d : FuncData
  get_from : Addr
  get_from_d : FuncData
  join_all : Addr
  join_all_d : FuncData
  split_text : Addr
  split_text_d : FuncData
  keys_of : Addr
  keys_of_d : FuncData
  sorted_list : Addr
  sorted_list_d : FuncData
  range_to : Addr
  range_to_d : FuncData
  quotient : Addr
  quotient_d : FuncData
  rest_of : Addr
  rest_of_d : FuncData
  least_of : Addr
  least_of_d : FuncData
  greatest_of : Addr
  greatest_of_d : FuncData
  call_function : Addr
  call_function_d : FuncData
  add : Addr
  add_d : FuncData
  calculate : Addr
  calculate_d : FuncData
  compare : Addr
  compare_d : FuncData
  operate : Addr
  operate_d : FuncData
  evaluate_all : Addr
  evaluate_all_d : FuncData
  evaluate_binary : Addr
  evaluate_binary_d : FuncData
  evaluate_choice : Addr
  evaluate_choice_d : FuncData
  evaluate_gathering : Addr
  evaluate_gathering_d : FuncData
  evaluate_made : Addr
  evaluate_made_d : FuncData
  evaluate_part : Addr
  evaluate_part_d : FuncData
  evaluate : Addr
  evaluate_d : FuncData
  l_cell : Addr
  l_cell_d : FuncData
  l_start : Addr
  l_start_d : FuncData
  l_digit : Addr
  l_digit_d : FuncData
  l_text : Addr
  l_text_d : FuncData
  l_number : Addr
  l_number_d : FuncData
  l_value : Addr
  l_value_d : FuncData
  l_kind : Addr
  l_kind_d : FuncData
  l_same : Addr
  l_same_d : FuncData
  l_parts : Addr
  l_parts_d : FuncData
  l_depth : Addr
  l_depth_d : FuncData
  l_size : Addr
  l_size_d : FuncData
  l_text_of : Addr
  l_text_of_d : FuncData
  l_made : Addr
  l_made_d : FuncData
  l_bounded : Addr
  l_bounded_d : FuncData
  l_joined : Addr
  l_joined_d : FuncData
  l_quotient : Addr
  l_quotient_d : FuncData
  l_sum : Addr
  l_sum_d : FuncData
  l_operate : Addr
  l_operate_d : FuncData
  l_at : Addr
  l_at_d : FuncData
  l_field : Addr
  l_field_d : FuncData
  l_call : Addr
  l_call_d : FuncData
  l_evaluated : Addr
  l_evaluated_d : FuncData
  l_right : Addr
  l_right_d : FuncData
  l_literal : Addr
  l_literal_d : FuncData
  l_leaf : Addr
  l_leaf_d : FuncData
  l_function : Addr
  l_function_d : FuncData
  l_many : Addr
  l_many_d : FuncData
  l_made_of : Addr
  l_made_of_d : FuncData
  l_signed : Addr
  l_signed_d : FuncData
  l_expression : Addr
  l_expression_d : FuncData
  l_environment : Addr
  l_environment_d : FuncData
  l_all : Addr
  l_all_d : FuncData
  l_boolean : Addr
  l_boolean_d : FuncData
  l_gathered : Addr
  l_gathered_d : FuncData
  l_two : Addr
  l_two_d : FuncData
  l_one : Addr
  l_one_d : FuncData
  l_written : Addr
  l_written_d : FuncData
  l_eval : Addr
  l_eval_d : FuncData
  l_spoil : Addr
  l_spoil_d : FuncData
  l_law : Addr
  l_law_d : FuncData
  flt : Addr
  fltI : Addr
  vwe : Addr
  funs : Addr
/-- where a function of the language stands -/
def Ads.fnA (a : Ads) : Fn → Addr
  | .length => a.length_of
  | .text => a.text_from
  | .get => a.get_from
  | .keys => a.keys_of
  | .min => a.least_of
  | .max => a.greatest_of
/-- what isinstance and an except clause ask of Fault (at C), ViewError (at V) -/
structure FltIs (K : PySem.W.Frag) (mg : Str → Option Value) (C V : Addr) : Prop where
  gV : mg "ViewError" = some (.ref V)
  ha : PySem.W.findIn K (Value.ref C) "__class__" = some (some (Value.builtin "object.__class__"))
  hn : PySem.W.specialIn K (Value.builtin "object.__class__") "__get__" = some (some (Value.builtin "getset_descriptor.__get__"))
  htk : PySem.W.takesIn K (Value.builtin "object.__class__") = some true
  hm : PySem.W.mroIn K C (Value.type "object") = some true
  kit : PySem.W.kitOne K (.ref C) (.ref C) = some true
  exm : PySem.W.exmOne K (.ref C) (.ref V) = some true
structure Txt (P : Program) (w : World) (K : PySem.W.Frag) (mg : Str → Option Value) (a : Ads) : Prop where
  kind_of_value : Def K mg "kind_of_value" s_kind_of_value a.kind_of_value a.kind_of_value_d ["value"]
  parts_of : Def K mg "parts_of" s_parts_of a.parts_of a.parts_of_d ["value"]
  same : Def K mg "same" s_same a.same a.same_d ["first", "second"]
  same_members : Def K mg "same_members" s_same_members a.same_members a.same_members_d ["first", "second"]
  same_fields : Def K mg "same_fields" s_same_fields a.same_fields a.same_fields_d ["first", "second"]
  depth : Def K mg "depth" s_depth a.depth a.depth_d ["value"]
  size : Def K mg "size" s_size a.size a.size_d ["value"]
  text_of : Def K mg "text_of" s_text_of a.text_of a.text_of_d ["value"]
  copied : Def K mg "copied" s_copied a.copied a.copied_d ["value"]
  bounded_number : Def K mg "bounded_number" s_bounded_number a.bounded_number a.bounded_number_d ["number"]
  bounded_text : Def K mg "bounded_text" s_bounded_text a.bounded_text a.bounded_text_d ["text"]
  bounded : Def K mg "bounded" s_bounded a.bounded a.bounded_d ["value"]
  need_boolean : Def K mg "need_boolean" s_need_boolean a.need_boolean a.need_boolean_d ["value"]
  need_number : Def K mg "need_number" s_need_number a.need_number a.need_number_d ["value"]
  need_text : Def K mg "need_text" s_need_text a.need_text a.need_text_d ["value"]
  need_list : Def K mg "need_list" s_need_list a.need_list a.need_list_d ["value"]
  need_record : Def K mg "need_record" s_need_record a.need_record a.need_record_d ["value"]
  need_row : Def K mg "need_row" s_need_row a.need_row a.need_row_d ["value"]
  field_of : Def K mg "field_of" s_field_of a.field_of a.field_of_d ["value", "name"]
  has_place : Def K mg "has_place" s_has_place a.has_place a.has_place_d ["value", "place"]
  at_place : Def K mg "at_place" s_at_place a.at_place a.at_place_d ["value", "place"]
  length_of : Def K mg "length_of" s_length_of a.length_of a.length_of_d ["arguments"]
  text_from : Def K mg "text_from" s_text_from a.text_from a.text_from_d ["arguments"]
  number_from : Def K mg "number_from" s_number_from a.number_from a.number_from_d ["arguments"]
  slice_of : Def K mg "slice_of" s_slice_of a.slice_of a.slice_of_d ["arguments"]
  find_in : Def K mg "find_in" s_find_in a.find_in a.find_in_d ["arguments"]
  get_from : Def K mg "get_from" s_get_from a.get_from a.get_from_d ["arguments"]
  join_all : Def K mg "join_all" s_join_all a.join_all a.join_all_d ["arguments"]
  split_text : Def K mg "split_text" s_split_text a.split_text a.split_text_d ["arguments"]
  keys_of : Def K mg "keys_of" s_keys_of a.keys_of a.keys_of_d ["arguments"]
  sorted_list : Def K mg "sorted_list" s_sorted_list a.sorted_list a.sorted_list_d ["arguments"]
  range_to : Def K mg "range_to" s_range_to a.range_to a.range_to_d ["arguments"]
  quotient : Def K mg "quotient" s_quotient a.quotient a.quotient_d ["first", "second"]
  rest_of : Def K mg "rest_of" s_rest_of a.rest_of a.rest_of_d ["arguments"]
  least_of : Def K mg "least_of" s_least_of a.least_of a.least_of_d ["arguments"]
  greatest_of : Def K mg "greatest_of" s_greatest_of a.greatest_of a.greatest_of_d ["arguments"]
  call_function : Def K mg "call_function" s_call_function a.call_function a.call_function_d ["name", "arguments"]
  add : Def K mg "add" s_add a.add a.add_d ["first", "second"]
  calculate : Def K mg "calculate" s_calculate a.calculate a.calculate_d ["sign", "first", "second"]
  compare : Def K mg "compare" s_compare a.compare a.compare_d ["sign", "first", "second"]
  operate : Def K mg "operate" s_operate a.operate a.operate_d ["sign", "first", "second"]
  evaluate_all : Def K mg "evaluate_all" s_evaluate_all a.evaluate_all a.evaluate_all_d ["expressions", "environment", "owner"]
  evaluate_binary : Def K mg "evaluate_binary" s_evaluate_binary a.evaluate_binary a.evaluate_binary_d ["expression", "environment", "owner"]
  evaluate_choice : Def K mg "evaluate_choice" s_evaluate_choice a.evaluate_choice a.evaluate_choice_d ["expression", "environment", "owner"]
  evaluate_gathering : Def K mg "evaluate_gathering" s_evaluate_gathering a.evaluate_gathering a.evaluate_gathering_d ["expression", "environment", "owner"]
  evaluate_made : Def K mg "evaluate_made" s_evaluate_made a.evaluate_made a.evaluate_made_d ["expression", "environment", "owner"]
  evaluate_part : Def K mg "evaluate_part" s_evaluate_part a.evaluate_part a.evaluate_part_d ["expression", "environment", "owner"]
  evaluate : Def K mg "evaluate" s_evaluate a.evaluate a.evaluate_d ["expression", "environment", "owner"]
  l_cell : Def K mg "_law_cell" s_l_cell a.l_cell a.l_cell_d ["_law_script", "_law_k"]
  l_start : Def K mg "_law_start" s_l_start a.l_start a.l_start_d ["_law_cell_here", "_law_k"]
  l_digit : Def K mg "_law_digit" s_l_digit a.l_digit a.l_digit_d ["_law_state", "_law_many_here"]
  l_text : Def K mg "_law_text" s_l_text a.l_text a.l_text_d ["_law_state"]
  l_number : Def K mg "_law_number" s_l_number a.l_number a.l_number_d ["_law_state"]
  l_value : Def K mg "_law_value" s_l_value a.l_value a.l_value_d ["_law_state", "_law_levels"]
  l_kind : Def K mg "_law_kind" s_l_kind a.l_kind a.l_kind_d ["_law_value_here"]
  l_same : Def K mg "_law_same" s_l_same a.l_same a.l_same_d ["_law_first", "_law_second"]
  l_parts : Def K mg "_law_parts" s_l_parts a.l_parts a.l_parts_d ["_law_value_here"]
  l_depth : Def K mg "_law_depth" s_l_depth a.l_depth a.l_depth_d ["_law_value_here"]
  l_size : Def K mg "_law_size" s_l_size a.l_size a.l_size_d ["_law_value_here"]
  l_text_of : Def K mg "_law_text_of" s_l_text_of a.l_text_of a.l_text_of_d ["_law_value_here"]
  l_made : Def K mg "_law_made" s_l_made a.l_made a.l_made_d ["_law_value_here"]
  l_bounded : Def K mg "_law_bounded" s_l_bounded a.l_bounded a.l_bounded_d ["_law_number_here"]
  l_joined : Def K mg "_law_joined" s_l_joined a.l_joined a.l_joined_d ["_law_text_here"]
  l_quotient : Def K mg "_law_quotient" s_l_quotient a.l_quotient a.l_quotient_d ["_law_first", "_law_second"]
  l_sum : Def K mg "_law_sum" s_l_sum a.l_sum a.l_sum_d ["_law_first", "_law_second"]
  l_operate : Def K mg "_law_operate" s_l_operate a.l_operate a.l_operate_d ["_law_sign", "_law_first", "_law_second"]
  l_at : Def K mg "_law_at" s_l_at a.l_at a.l_at_d ["_law_value_here", "_law_place"]
  l_field : Def K mg "_law_field" s_l_field a.l_field a.l_field_d ["_law_value_here", "_law_name"]
  l_call : Def K mg "_law_call" s_l_call a.l_call a.l_call_d ["_law_name", "_law_arguments"]
  l_evaluated : Def K mg "_law_evaluated" s_l_evaluated a.l_evaluated a.l_evaluated_d ["_law_expression_here", "_law_environment_here", "_law_owner"]
  l_right : Def K mg "_law_right" s_l_right a.l_right a.l_right_d ["_law_told", "_law_due"]
  l_literal : Def K mg "_law_literal" s_l_literal a.l_literal a.l_literal_d ["_law_state", "_law_want"]
  l_leaf : Def K mg "_law_leaf" s_l_leaf a.l_leaf a.l_leaf_d ["_law_state", "_law_want", "_law_bound"]
  l_function : Def K mg "_law_function" s_l_function a.l_function a.l_function_d ["_law_state", "_law_levels", "_law_want", "_law_bound"]
  l_many : Def K mg "_law_many" s_l_many a.l_many a.l_many_d ["_law_state", "_law_levels", "_law_bound"]
  l_made_of : Def K mg "_law_made_of" s_l_made_of a.l_made_of a.l_made_of_d ["_law_state", "_law_levels", "_law_want", "_law_bound"]
  l_signed : Def K mg "_law_signed" s_l_signed a.l_signed a.l_signed_d ["_law_state", "_law_levels", "_law_want", "_law_bound"]
  l_expression : Def K mg "_law_expression" s_l_expression a.l_expression a.l_expression_d ["_law_state", "_law_levels", "_law_want", "_law_bound"]
  l_environment : Def K mg "_law_environment" s_l_environment a.l_environment a.l_environment_d ["_law_state"]
  l_all : Def K mg "_law_all" s_l_all a.l_all a.l_all_d ["_law_parts_here", "_law_environment_here", "_law_owner"]
  l_boolean : Def K mg "_law_boolean" s_l_boolean a.l_boolean a.l_boolean_d ["_law_found"]
  l_gathered : Def K mg "_law_gathered" s_l_gathered a.l_gathered a.l_gathered_d ["_law_expression_here", "_law_environment_here", "_law_owner"]
  l_two : Def K mg "_law_two" s_l_two a.l_two a.l_two_d ["_law_expression_here", "_law_environment_here", "_law_owner"]
  l_one : Def K mg "_law_one" s_l_one a.l_one a.l_one_d ["_law_expression_here", "_law_environment_here", "_law_owner"]
  l_written : Def K mg "_law_written" s_l_written a.l_written a.l_written_d ["_law_expression_here", "_law_environment_here", "_law_owner"]
  l_eval : Def K mg "_law_eval" s_l_eval a.l_eval a.l_eval_d ["_law_expression_here", "_law_environment_here", "_law_owner"]
  l_spoil : Def K mg "_law_spoil" s_l_spoil a.l_spoil a.l_spoil_d ["_law_value_here"]
  b_len : mg "len" = none
  b_isinstance : mg "isinstance" = none
  b_bool : mg "bool" = none
  b_int : mg "int" = none
  b_str : mg "str" = none
  b_list : mg "list" = none
  b_dict : mg "dict" = none
  b_tuple : mg "tuple" = none
  b_abs : mg "abs" = none
  b_max : mg "max" = none
  b_min : mg "min" = none
  b_sum : mg "sum" = none
  b_sorted : mg "sorted" = none
  b_range : mg "range" = none
  b_repr : mg "repr" = none
  c_MOST_NUMBER : ∃ t, mg "MOST_NUMBER" = some (.int 1000000000000000000000000000000 t)
  c_MOST_CHARACTERS : ∃ t, mg "MOST_CHARACTERS" = some (.int 2000 t)
  c_MOST_MEMBERS : ∃ t, mg "MOST_MEMBERS" = some (.int 200 t)
  c_MOST_DEPTH : ∃ t, mg "MOST_DEPTH" = some (.int 20 t)
  c_MOST_SIZE : ∃ t, mg "MOST_SIZE" = some (.int 2000 t)
  fns : ∃ d, mg "FUNCTIONS" = some (.ref d) ∧ ∀ f : Fn, KDct K w d f.name (.ref (a.fnA f))
  flt : PySem.FltX.FltTxt P K mg a.flt a.fltI
  fis : FltIs K mg a.flt a.vwe
end K19
/-! Rules in short. -/
namespace K19
open PySem PySem.Spec PyProof.Rows L2
section
variable {X : Cx}
/-- a def of the text, called -/
theorem pe_cd {CX : CXT} {k : Nat} {x : Str} {st : Stmt} {f : Addr} {fd : FuncData} {ps : List Str} {sp : Sp} {E : XK} {p pos : Pos} {e : Expr} {es : List Expr} {t : TA} (D : Def X.K X.mg x st f fd ps) (G : FnOk X.prog X.w X.K X.mg X.base CX k f fd ps sp) (hr : Room k X.A) (hx : Passes CX X E) (ha : PA X (e :: es) t)
    (hg : Gl X x := by rfl) (hdb : (x == ("__debug__" : Str)) = false := by decide) (he : starEach (e :: es) X.env = (false, eval e X.env) :: starEach es X.env := by rfl) (hpl : (backTo pos (starEach es X.env)).any (·.1) = false := by rfl) :
    PE X (.Call (.Name x p) (e :: es) [] pos) (tCall sp [] E t) := pe_call G hr hg D.g D.F.kp D.b .nil hx ha hdb he hpl
/-- a module's number -/
theorem pe_gint {x : Str} {i : Int} {pos : Pos} (h : ∃ t, X.mg x = some (.int i t)) (hg : Gl X x := by rfl) (hd : (x == ("__debug__" : Str)) = false := by decide) : PE X (.Name x pos) (tC (.int i)) := by
  obtain ⟨t, h⟩ := h
  exact pe_glob hg h ⟨_, rfl⟩ hd
end

/-- a value's class -/
def tyN : Val → String
  | .nul => "NoneType"
  | .boo _ => "bool"
  | .num _ => "int"
  | .txt _ => "str"
  | .lst _ => "list"
  | .rcd _ _ => "dict"
  | .act _ _ _ => "tuple"
theorem Rep.ty {K : PySem.W.Frag} {H : Hp} {v : V} {x : Val} (h : Rep (Rd H) v x) : TyX K H v (.type (tyN x)) := by
  cases h with
  | nul => exact .base .non
  | boo b => exact .base (.bl b)
  | num i => exact .base (.int i)
  | txt s => exact .base (.str s)
  | lst h r =>
    rcases h with h | ⟨o, h⟩
    · exact .base (.lst h)
    · exact .base (.frz h)
  | rcd h k r =>
    rcases h with h | ⟨o, h⟩
    · exact .base (.dK h)
    · exact .fDict h
  | act h g r =>
    rcases h with h | ⟨o, h⟩
    · exact .base (.tup h)
    · exact .fTuple h
/-- isinstance of a value -/
inductive Cl where
  | bool | int | str | list | dict | tuple
def Cl.nm : Cl → String
  | .bool => "bool"
  | .int => "int"
  | .str => "str"
  | .list => "list"
  | .dict => "dict"
  | .tuple => "tuple"
def isV : Val → Cl → Bool
  | .boo _, .bool => true
  | .boo _, .int => true
  | .num _, .int => true
  | .txt _, .str => true
  | .lst _, .list => true
  | .rcd _ _, .dict => true
  | .act _ _ _, .tuple => true
  | _, _ => false
theorem isV_ok (x : Val) (T : Cl) : kitB (tyN x) T.nm = some (isV x T) := by
  cases x <;> cases T <;> kernel_rfl
def rIsV : List V → Hp → VK → Prop := fun xs H Q => ∃ (v : V) (x : Val) (T : Cl), xs = [v, .ty T.nm] ∧ Rep (Rd H) v x ∧ Q (.bl (isV x T)) H
theorem call_isV {X : Cx} : CallR X (.builtin "isinstance") rIsV := by
  rintro pins s σ H xs us Q I r ⟨v, x, T, rfl, rep, q⟩
  exact call_isi pins s σ H _ us Q I r ⟨v, .ty T.nm, _, _, _, rfl, .ty T.nm, rep.ty, kit_ty (isV_ok x T), q⟩
/-- how long -/
def lenV : Val → Nat
  | .txt s => s.length
  | .lst l => l.length
  | .rcd ks _ => ks.length
  | .act _ _ _ => 4
  | _ => 0
def sizedV : Val → Bool
  | .txt _ => true
  | .lst _ => true
  | .rcd _ _ => true
  | .act _ _ _ => true
  | _ => false
theorem le_line {n : Nat} (h : n ≤ 10000000) : n ≤ sizeLine := Nat.le_trans h (by decide)
theorem lt_line {n : Nat} (h : n < 10000000) : n < sizeLine := Nat.lt_of_lt_of_le h (by decide)
def rLenV : List V → Hp → VK → Prop := fun xs H Q => ∃ (v : V) (x : Val), xs = [v] ∧ Rep (Rd H) v x ∧ sizedV x = true ∧ lenV x ≤ 10000000 ∧ Q (.int (lenV x)) H
theorem call_lenV {X : Cx} : CallR X (.builtin "len") rLenV := by
  rintro pins s σ H xs us Q I r ⟨v, x, rfl, rep, hs, hl, q⟩
  cases rep with
  | txt z => exact call_len_str pins s σ H _ us Q I r ⟨z, rfl, le_line hl, q⟩
  | @lst a xs l h g =>
    have e : xs.length = l.length := g.length
    refine call_len_seq pins s σ H _ us Q I r ⟨a, xs, rfl, .inl (.inl h), ?_⟩
    rw [e]
    exact q
  | @rcd a kvs ks l h k g =>
    have e : kvs.length = ks.length := by
      have := congrArg List.length k
      simpa using this
    obtain ⟨u, rfl, ru⟩ := vals1 r; cases ru
    refine d_len I h fun t s' I' => ⟨.int (lenV (.rcd ks l)), H, I', ⟨t, ?_⟩, q⟩
    show Value.int kvs.length t = Value.int (ks.length : Nat) t
    rw [e]
  | @act a b o n xs l h g r' =>
    exact call_len_seq pins s σ H _ us Q I r ⟨a, _, rfl, .inr (.inl h), q⟩
  | _ => cases hs
end K19
namespace K19
open PySem PySem.Spec PyProof.Rows L2
/-! ### while a dict is locked -/
theorem unlock_same {H H1 : Hp} {d : Addr} {u : HO} {od : Obj} (hd : H d = some u) (s : Same (upd H d (.frz od u)) H1) : Same H (upd H1 d u) := fun b o e => by
  by_cases hb : b = d
  · subst hb
    rw [hd] at e
    rw [upd_same]
    exact e
  · rw [upd_ne hb]
    exact s b o (by rw [upd_ne hb]; exact e)
theorem take_succ_get {α : Type} {l : List α} {i : Nat} {x : α} (h : l[i]? = some x) : l.take (i + 1) = l.take i ++ [x] := by
  rw [List.take_add_one, h]
  rfl
theorem getD_some {α : Type} {l : List α} {i : Nat} (h : i < l.length) : ∃ x, l[i]? = some x := ⟨l[i], by simp [h]⟩
theorem depthL_append (l m : List Val) : depthL (l ++ m) = max (depthL l) (depthL m) := by
  induction l with
  | nil => simp [depthL]
  | cons x r ih => simp only [List.cons_append, depthL, ih, Nat.max_assoc]
theorem depthL_one (x : Val) : depthL [x] = depthV x := by simp [depthL]
theorem depthV_pos : ∀ x : Val, 1 ≤ depthV x
  | .nul | .boo _ | .num _ | .txt _ => by simp [depthV]
  | .lst _ | .rcd _ _ | .act _ _ _ => by simp [depthV]
theorem depthL_mem {l : List Val} {x : Val} (h : x ∈ l) : depthV x ≤ depthL l := by
  induction l with
  | nil => cases h
  | cons y r ih =>
    simp only [depthL]
    rcases (List.mem_cons.mp h : _ ∨ _) with e | e
    · subst e
      omega
    · have := ih e
      omega
theorem sizeL_append (l m : List Val) : sizeL (l ++ m) = sizeL l + sizeL m := by
  induction l with
  | nil => simp [sizeL]
  | cons x r ih => simp only [List.cons_append, sizeL, ih, Nat.add_assoc]
theorem sizeL_one (x : Val) : sizeL [x] = sizeV x := by simp [sizeL]
theorem sizeL_mem {l : List Val} {x : Val} (h : x ∈ l) : sizeV x ≤ sizeL l := by
  induction l with
  | nil => cases h
  | cons y r ih =>
    simp only [sizeL]
    rcases (List.mem_cons.mp h : _ ∨ _) with e | e
    · subst e
      omega
    · have := ih e
      omega
theorem sizeV_pos : ∀ x : Val, 1 ≤ sizeV x
  | .nul | .boo _ | .num _ => by simp [sizeV]
  | .txt _ | .lst _ | .rcd _ _ | .act _ _ _ => by simp only [sizeV]; omega
theorem sizeL_len (l : List Val) : l.length ≤ sizeL l := by
  induction l with
  | nil => exact Nat.le_refl _
  | cons x r ih =>
    have := sizeV_pos x
    simp only [List.length_cons, sizeL]
    omega
theorem depth_parts (x : Val) : depthV x = depthL (partsV x) + 1 := by
  cases x <;> simp [depthV, partsV, depthL]
theorem valV_at {κ : Type} [DecidableEq κ] : ∀ {kvs : List (κ × V)} {i : Nat} {k : κ} {v : V}, (kvs.map (·.1)).Nodup → kvs[i]? = some (k, v) → valV kvs k = some v
  | [], i, _, _, _, h => by simp at h
  | (j, y) :: r, 0, k, v, _, h => by
    simp at h
    obtain ⟨h1, h2⟩ := h
    subst h1 h2
    exact valV_pos rfl
  | (j, y) :: r, i + 1, k, v, nd, h => by
    have h' : r[i]? = some (k, v) := by simpa using h
    have nd' : j ∉ r.map (·.1) ∧ (r.map (·.1)).Nodup := by simpa using nd
    have ne : ¬ j = k := fun e => by
      subst e
      exact nd'.1 (List.mem_map.mpr ⟨_, List.mem_of_getElem? h', rfl⟩)
    rw [valV_neg (p := (j, y)) ne]
    exact valV_at nd'.2 h'
theorem nd_keys {kvs : List (Key × V)} {ks : List Str} (e : kvs.map (·.1) = ks.map Sum.inr) (h : ks.Nodup) : (kvs.map (·.1)).Nodup := by
  rw [e]
  exact h.map _ (fun _ _ ne z => ne (Sum.inr.inj z))
theorem ok_rcd {ks : List Str} {l : List Val} (h : okV (.rcd ks l) = true) : ks.Nodup ∧ ks.length = l.length ∧ ks.length ≤ 40 ∧ okL l = true := by
  simp only [okV, Bool.and_eq_true, decide_eq_true_eq] at h
  exact ⟨h.1.1.1.1, h.1.1.1.2, h.1.1.2, h.2⟩
theorem ok_keys {ks : List Str} {l : List Val} (h : okV (.rcd ks l) = true) : okK ks = true := by
  simp only [okV, Bool.and_eq_true, decide_eq_true_eq] at h
  exact h.1.2
theorem okL_mem {l : List Val} {x : Val} (h : okL l = true) (hx : x ∈ l) : okV x = true := by
  induction l with
  | nil => cases hx
  | cons y r ih =>
    simp only [okL, Bool.and_eq_true] at h
    rcases List.mem_cons.mp hx with e | e
    · subst e
      exact h.1
    · exact ih h.2 e
theorem ok_parts {x : Val} (h : okV x = true) : okL (partsV x) = true := by
  cases x with
  | lst l => simpa [okV, partsV] using h
  | rcd ks l => exact (ok_rcd h).2.2.2
  | act o n l =>
    simp only [okV, Bool.and_eq_true] at h
    exact h.1
  | _ => rfl
theorem sc_kind_of_value : FnScope nm_kind_of_value ["value"] (defScope s_kind_of_value) := ⟨rfl, rfl, rfl, by decide +kernel, rfl, by decide +kernel, by decide +kernel⟩
theorem sc_parts_of : FnScope nm_parts_of ["value"] (defScope s_parts_of) := ⟨rfl, rfl, rfl, by decide +kernel, rfl, by decide +kernel, by decide +kernel⟩
theorem sc_depth : FnScope nm_depth ["value"] (defScope s_depth) := ⟨rfl, rfl, rfl, by decide +kernel, rfl, by decide +kernel, by decide +kernel⟩
theorem sc_size : FnScope nm_size ["value"] (defScope s_size) := ⟨rfl, rfl, rfl, by decide +kernel, rfl, by decide +kernel, by decide +kernel⟩
theorem sc_text_of : FnScope nm_text_of ["value"] (defScope s_text_of) := ⟨rfl, rfl, rfl, by decide +kernel, rfl, by decide +kernel, by decide +kernel⟩

section
variable {P : Program} {w : World} {K : PySem.W.Frag} {mg : Str → Option Value} {base : Heap} {a : Ads}
def spKind : Sp := fun vs H Q _ => ∃ v x, vs = [v] ∧ Rep (Rd H) v x ∧ Q (.str (kindN x)) H
theorem ok_kind_of_value (T : Txt P w K mg a) : FnOk P w K mg base CX0 1 a.kind_of_value a.kind_of_value_d ["value"] spKind := by
  refine T.kind_of_value.F.ok sc_kind_of_value (fun vs H Q E h => ?_) (fun cdv A outer s H vs Q E hr h => ?_)
  · obtain ⟨v, x, rfl, _⟩ := h
    rfl
  · obtain ⟨v, x, rfl, rep, q⟩ := h
    refine ⟨_, (pss_cons (ps_if (pt_cmpR op_isN (pv 0) pe_non (nomark _)) (pss_one (ps_ret pe_str)) pss_nil)
      (pss_cons (ps_if (pt_val (pe_callB call_isV rfl T.b_isinstance (by decide +kernel) (pa_cons (pv 0) (pa_cons (pe_bltn (v := .ty "bool") (u := .type "bool") rfl T.b_bool (by decide +kernel) rfl) pa_nil)))) (pss_one (ps_ret pe_str)) pss_nil)
      (pss_cons (ps_if (pt_val (pe_callB call_isV rfl T.b_isinstance (by decide +kernel) (pa_cons (pv 0) (pa_cons (pe_bltn (v := .ty "int") (u := .type "int") rfl T.b_int (by decide +kernel) rfl) pa_nil)))) (pss_one (ps_ret pe_str)) pss_nil)
      (pss_cons (ps_if (pt_val (pe_callB call_isV rfl T.b_isinstance (by decide +kernel) (pa_cons (pv 0) (pa_cons (pe_bltn (v := .ty "str") (u := .type "str") rfl T.b_str (by decide +kernel) rfl) pa_nil)))) (pss_one (ps_ret pe_str)) pss_nil)
      (pss_cons (ps_if (pt_val (pe_callB call_isV rfl T.b_isinstance (by decide +kernel) (pa_cons (pv 0) (pa_cons (pe_bltn (v := .ty "list") (u := .type "list") rfl T.b_list (by decide +kernel) rfl) pa_nil)))) (pss_one (ps_ret pe_str)) pss_nil)
      (pss_cons (ps_if (pt_val (pe_callB call_isV rfl T.b_isinstance (by decide +kernel) (pa_cons (pv 0) (pa_cons (pe_bltn (v := .ty "dict") (u := .type "dict") rfl T.b_dict (by decide +kernel) rfl) pa_nil)))) (pss_one (ps_ret pe_str)) pss_nil)
      (pss_one (ps_ret pe_str)))))))), ?_⟩
    have rep' := rep
    cases rep with
    | nul =>
      refine ⟨_, rfl, rfl, _, rfl, iteT ?_⟩
      exact q
    | _ =>
      refine ⟨_, rfl, rfl, _, rfl, iteF ?_⟩
      refine ⟨_, rfl, _, _, .bool, rfl, rep', _, rfl, ?_⟩
      first | exact iteT q | refine iteF ⟨_, rfl, _, _, .int, rfl, rep', _, rfl, ?_⟩
      all_goals first | exact iteT q | refine iteF ⟨_, rfl, _, _, .str, rfl, rep', _, rfl, ?_⟩
      all_goals first | exact iteT q | refine iteF ⟨_, rfl, _, _, .list, rfl, rep', _, rfl, ?_⟩
      all_goals first | exact iteT q | refine iteF ⟨_, rfl, _, _, .dict, rfl, rep', _, rfl, ?_⟩
      all_goals first | exact iteT q | exact iteF q
def spParts : Sp := fun vs H Q _ => ∃ v x, vs = [v] ∧ Rep (At H) v x ∧ okV x = true ∧ sizeL (partsV x) ≤ 9000000 ∧
  ∀ p xs H', Same H H' → H' p = some (.lst xs) → RepL (At H') xs (partsV x) → Q (.ref p) H'
theorem ok_parts_of (T : Txt P w K mg a) : FnOk P w K mg base CX0 2 a.parts_of a.parts_of_d ["value"] spParts := by
  have G_kind_of_value := ok_kind_of_value (base := base) T
  refine T.parts_of.F.ok sc_parts_of (fun vs H Q E h => ?_) (fun cdv A outer s H vs Q E hr h => ?_)
  · obtain ⟨v, x, rfl, _⟩ := h
    rfl
  · obtain ⟨v, x, rfl, rep, hok, hz, q⟩ := h
    refine ⟨_, (pss_cons (ps_set (i := 1) sc_parts_of.nd rfl (Or.inl rfl) (pe_cd T.kind_of_value G_kind_of_value (hr.mono (by omega)) pass0 (pa_cons (pv 0) pa_nil)))
      (pss_cons (ps_if (pt_cmpR op_eq (pv 1) pe_str (nomark _)) (pss_one (ps_ret (pv 0))) pss_nil)
      (pss_cons (ps_if (pt_cmpR op_eq (pv 1) pe_str (nomark _)) (pss_one (ps_ret (pe_lock (pe_lc (own := [("name", 2)]) (g := gName 2) rfl sc_parts_of.nd (pi_keys (pv 0)) (blkOk_by (own := [("name", 2)]) (N := nm_parts_of) (sc := defScope s_parts_of) (by decide +kernel)) (fun _ _ _ _ _ => pg_name (i := 2) sc_parts_of.nd rfl (Or.inl rfl)) (fun _ _ _ _ _ => pts_nil) (fun _ _ _ _ _ => (pe_dget (hu_of hr) (pv 0) (pv 2) (fun _ _ => rfl))))))) pss_nil)
      (pss_cons (ps_if (pt_cmpR op_eq (pv 1) pe_str (nomark _)) (pss_one (ps_ret (pe_ix ix_tup (pv 0) pe_int (fun _ _ => rfl)))) pss_nil)
      (pss_one (ps_ret (pe_lst pa_nil))))))), ?_⟩
    refine ⟨_, rfl, v, x, rfl, rep.rd, ?_⟩
    cases rep with
    | lst h r =>
      refine ⟨_, rfl, rfl, _, rfl, iteT ?_⟩
      exact ⟨_, rfl, q _ _ _ (Same.refl H) h r⟩
    | @rcd d kvs ks l h k r =>
      refine ⟨_, rfl, rfl, _, rfl, iteF ?_⟩
      refine ⟨_, rfl, rfl, _, rfl, iteT ?_⟩
      have hl : kvs.length = l.length := by rw [← r.length, List.length_map]
      have hz' : l.length ≤ 9000000 := Nat.le_trans (sizeL_len l) hz
      refine ⟨d, _, h, trivial, fun od => ?_⟩
      refine ⟨_, rfl, d, od, rfl, .inl ⟨kvs, upd_same, fun D hD => ?_⟩⟩
      refine lc_it walk_keys (fun i H1 => Same (upd H d (.frz od (.dK kvs))) H1 ∧ H1 D = some (.lst ((kvs.take i).map (·.2)))) ⟨same_new hD _, upd_same⟩ (fun i H1 _ z => z.1 _ _ upd_same) ?_ ?_
      · rintro i y H1 H2 hi ⟨s1, e1⟩ ⟨rfl, k', v', hk, rfl⟩
        refine ⟨rfl, ?_⟩
        refine ⟨_, rfl, _, rfl, d, v', rfl, .inl ⟨kvs, k', .inr ⟨od, s1 _ _ upd_same⟩, rfl, (valV_at (nd_keys k (ok_rcd hok).1) hk).symm⟩, _, e1, lt_line (by rw [List.length_map, List.length_take]; omega), ?_, ?_⟩
        · exact same_mut s1 hD _
        · rw [upd_same, take_succ_get hk, List.map_append]
          rfl
      · rintro H1 ⟨s1, e1⟩
        refine ⟨s1 _ _ upd_same, ?_⟩
        have ne : D ≠ d := fun z => by
          rw [z, s1 _ _ upd_same] at e1
          cases e1
        have s2 := unlock_same h s1
        refine q D _ _ s2 (by rw [upd_ne ne, e1, List.take_length]) (r.same s2)
    | act h g r =>
      refine ⟨_, rfl, rfl, _, rfl, iteF ?_⟩
      refine ⟨_, rfl, rfl, _, rfl, iteF ?_⟩
      refine ⟨_, rfl, rfl, _, rfl, iteT ?_⟩
      exact ⟨_, rfl, _, _, _, _, rfl, rfl, SqT.of h, rfl, q _ _ _ (Same.refl H) g r⟩
    | _ =>
      refine ⟨_, rfl, rfl, _, rfl, iteF ?_⟩
      refine ⟨_, rfl, rfl, _, rfl, iteF ?_⟩
      refine ⟨_, rfl, rfl, _, rfl, iteF ?_⟩
      refine ⟨by show 0 ≤ sizeLine; decide, fun p hp => ?_⟩
      exact q p _ _ (same_new hp _) upd_same .nil
def spDepth (n : Nat) : Sp := fun vs H Q _ => ∃ v x, vs = [v] ∧ Rep (At H) v x ∧ okV x = true ∧ depthV x ≤ n ∧ sizeV x ≤ 9000000 ∧ ∀ H', Same H H' → Q (.int (depthV x)) H'
theorem depthL_take {l : List Val} {i : Nat} {x : Val} (h : l[i]? = some x) : (depthL (l.take (i + 1)) : Int) = if (depthV x : Int) > (depthL (l.take i) : Int) then (depthV x : Int) else (depthL (l.take i) : Int) := by
  rw [take_succ_get h, depthL_append, depthL_one]
  split <;> omega
theorem sizeP (x : Val) : sizeL (partsV x) ≤ sizeV x := by
  cases x <;> simp only [partsV, sizeV, sizeL] <;> omega
theorem fn_none {CX : CXT} {k : Nat} {f : Addr} {fd : FuncData} {ps : List Str} {sp : Sp} (no : ∀ vs H Q E, ¬ sp vs H Q E) : FnOk P w K mg base CX k f fd ps sp :=
  ⟨fun vs H Q E h => absurd h (no vs H Q E), fun A outer s H args us vs Q E _ _ _ _ h => absurd h (no vs H Q E)⟩
theorem ok_depth (T : Txt P w K mg a) : ∀ n : Nat, FnOk P w K mg base CX0 (n + 3) a.depth a.depth_d ["value"] (spDepth n)
  | 0 => fn_none fun vs H Q E h => by
    obtain ⟨v, x, _, _, _, h, _⟩ := h
    have := depthV_pos x
    omega
  | n + 1 => by
    have G_kind_of_value := ok_kind_of_value (base := base) T
    have G_parts_of := ok_parts_of (base := base) T
    have G_depth := ok_depth T n
    refine T.depth.F.ok sc_depth (fun vs H Q E h => ?_) (fun cdv A outer s H vs Q E hr h => ?_)
    · obtain ⟨v, x, rfl, _⟩ := h
      rfl
    · obtain ⟨v, x, rfl, rep, hok, hd, hz, q⟩ := h
      refine ⟨_, (pss_cons (ps_set (i := 1) sc_depth.nd rfl (Or.inl rfl) pe_int)
      (pss_cons (ps_for PassesOwn.never rfl (pi_list (pe_cd T.parts_of G_parts_of (hr.mono (by omega)) pass0 (pa_cons (pv 0) pa_nil))) (pg_name (i := 2) sc_depth.nd rfl (Or.inl rfl)) (pss_one (ps_set (i := 1) sc_depth.nd rfl (Or.inl rfl) (pe_callB (call_max2 rfl) rfl T.b_max (by decide +kernel) (pa_cons (pv 1) (pa_cons (pe_cd T.depth G_depth (hr.mono (by omega)) pass0 (pa_cons (pv 2) pa_nil)) pa_nil))))))
      (pss_cons (ps_if (pt_cmpR op_in_seq (pe_cd T.kind_of_value G_kind_of_value (hr.mono (by omega)) pass0 (pa_cons (pv 0) pa_nil)) (pe_tup (pa_cons pe_str (pa_cons pe_str (pa_cons pe_str pa_nil)))) (by rfl)) (pss_one (ps_ret (pe_op op_add (pv 1) pe_int))) pss_nil)
      (pss_one (ps_ret pe_int))))), ?_⟩
      have hzp := sizeP x
      have hdp := depth_parts x
      refine ⟨_, rfl, v, x, rfl, rep, hok, by omega, fun p xs H1 s1 e1 r1 => ?_⟩
      refine ⟨p, rfl, ⟨xs, SqL.of e1⟩, for_list (K := K) (a := p) (xs := xs) (fun i σ H2 => ∃ o, σ = [some v, some (.int (depthL ((partsV x).take i))), o] ∧ Same H1 H2) ⟨none, rfl, Same.refl _⟩ (fun i σ H2 _ ⟨_, _, s2⟩ => s2.seq (SqL.of e1)) ?_ ?_⟩
      · rintro i y σ H2 hi ⟨o, rfl, s2⟩
        obtain ⟨z, hz1, hz2⟩ := r1.get hi
        have hm := List.mem_of_getElem? hz1
        refine ⟨_, rfl, _, rfl, y, z, rfl, hz2.same s2, okL_mem (ok_parts hok) hm, by have := depthL_mem hm; omega, by have := sizeL_mem hm; omega, fun H3 s3 => ?_⟩
        refine ⟨_, _, rfl, ?_⟩
        exact ⟨_, by rw [depthL_take hz1]; rfl, s2.trans s3⟩
      · rintro σ H2 ⟨o, rfl, s2⟩
        have el : xs.length = (partsV x).length := r1.length
        rw [el, List.take_length]
        refine ⟨_, rfl, v, x, rfl, (rep.same (s1.trans s2)).rd, ?_⟩
        refine ⟨by show 3 ≤ sizeLine; decide, fun t ht => ?_⟩
        have s4 : Same H (upd H2 t (.tup [.str "list", .str "record", .str "act"])) := s1.trans (same_snoc s2 ht _)
        refine ⟨t, _, rfl, .inr (SqT.of upd_same), rfl, rfl, _, rfl, ?_⟩
        cases x with
        | lst l => exact iteT ⟨_, rfl, _, _, rfl, rfl, q _ s4⟩
        | rcd ks l => exact iteT ⟨_, rfl, _, _, rfl, rfl, q _ s4⟩
        | act o n l => exact iteT ⟨_, rfl, _, _, rfl, rfl, q _ s4⟩
        | _ => exact iteF (q _ s4)
end
end K19
namespace K19
open PySem PySem.Spec PyProof.Rows L2
theorem sc_same : FnScope nm_same ["first", "second"] (defScope s_same) := ⟨rfl, rfl, rfl, by decide +kernel, rfl, by decide +kernel, by decide +kernel⟩
theorem sc_same_members : FnScope nm_same_members ["first", "second"] (defScope s_same_members) := ⟨rfl, rfl, rfl, by decide +kernel, rfl, by decide +kernel, by decide +kernel⟩
theorem sc_same_fields : FnScope nm_same_fields ["first", "second"] (defScope s_same_fields) := ⟨rfl, rfl, rfl, by decide +kernel, rfl, by decide +kernel, by decide +kernel⟩
theorem sc_copied : FnScope nm_copied ["value"] (defScope s_copied) := ⟨rfl, rfl, rfl, by decide +kernel, rfl, by decide +kernel, by decide +kernel⟩

theorem lens_append (l m : List Str) : lens (l ++ m) = lens l + lens m := by
  induction l with
  | nil => simp [lens]
  | cons x r ih => simp only [List.cons_append, lens, ih, Nat.add_assoc]
theorem lens_sum (ks : List Str) : (ks.map fun k => (k.length : Int)).sum = (lens ks : Int) := by
  induction ks with
  | nil => rfl
  | cons k r ih =>
    simp only [List.map_cons, List.sum_cons, ih, lens]
    omega
theorem lens_mem {ks : List Str} {k : Str} (h : k ∈ ks) : k.length ≤ lens ks := by
  induction ks with
  | nil => cases h
  | cons j r ih =>
    simp only [lens]
    rcases (List.mem_cons.mp h : _ ∨ _) with e | e
    · subst e
      omega
    · have := ih e
      omega
section
variable {P : Program} {w : World} {K : PySem.W.Frag} {mg : Str → Option Value} {base : Heap} {a : Ads}
def spSize (n : Nat) : Sp := fun vs H Q _ => ∃ v x, vs = [v] ∧ Rep (At H) v x ∧ okV x = true ∧ depthV x ≤ n ∧ sizeV x ≤ 9000000 ∧ ∀ H', Same H H' → Q (.int (sizeV x)) H'
theorem sizeL_take {l : List Val} {i : Nat} {x : Val} (h : l[i]? = some x) : (sizeL (l.take (i + 1)) : Int) = (sizeL (l.take i) : Int) + (sizeV x : Int) := by
  rw [take_succ_get h, sizeL_append, sizeL_one]
  omega
theorem key_at {kvs : List (Key × V)} {ks : List Str} {i : Nat} {k : Key} {v : V} (e : kvs.map (·.1) = ks.map Sum.inr) (h : kvs[i]? = some (k, v)) : ∃ s, k = Sum.inr s ∧ ks[i]? = some s := by
  have h1 : (kvs.map (·.1))[i]? = some k := by rw [List.getElem?_map, h]; rfl
  rw [e, List.getElem?_map] at h1
  cases q : ks[i]? with
  | none => rw [q] at h1; cases h1
  | some s =>
    rw [q] at h1
    exact ⟨s, (Option.some.inj h1).symm, rfl⟩
theorem ok_size (T : Txt P w K mg a) : ∀ n : Nat, FnOk P w K mg base CX0 (n + 3) a.size a.size_d ["value"] (spSize n)
  | 0 => fn_none fun vs H Q E h => by
    obtain ⟨v, x, _, _, _, h, _⟩ := h
    have := depthV_pos x
    omega
  | n + 1 => by
    have G_kind_of_value := ok_kind_of_value (base := base) T
    have G_parts_of := ok_parts_of (base := base) T
    have G_size := ok_size T n
    refine T.size.F.ok sc_size (fun vs H Q E h => ?_) (fun cdv A outer s H vs Q E hr h => ?_)
    · obtain ⟨v, x, rfl, _⟩ := h
      rfl
    · obtain ⟨v, x, rfl, rep, hok, hd, hz, q⟩ := h
      refine ⟨_, (pss_cons (ps_set (i := 1) sc_size.nd rfl (Or.inl rfl) pe_int)
      (pss_cons (ps_for PassesOwn.never rfl (pi_list (pe_cd T.parts_of G_parts_of (hr.mono (by omega)) pass0 (pa_cons (pv 0) pa_nil))) (pg_name (i := 2) sc_size.nd rfl (Or.inl rfl)) (pss_one (ps_set (i := 1) sc_size.nd rfl (Or.inl rfl) (pe_op op_add (pv 1) (pe_cd T.size G_size (hr.mono (by omega)) pass0 (pa_cons (pv 2) pa_nil))))))
      (pss_cons (ps_set (i := 3) sc_size.nd rfl (Or.inl rfl) (pe_cd T.kind_of_value G_kind_of_value (hr.mono (by omega)) pass0 (pa_cons (pv 0) pa_nil)))
      (pss_cons (ps_if (pt_cmpR op_eq (pv 3) pe_str (nomark _)) (pss_one (ps_ret (pe_op op_add (pv 1) (pe_callB call_lenV rfl T.b_len (by decide +kernel) (pa_cons (pv 0) pa_nil))))) pss_nil)
      (pss_cons (ps_if (pt_cmpR op_eq (pv 3) pe_str (nomark _)) (pss_one (ps_ret (pe_op op_add (pv 1) (pe_callB call_lenV rfl T.b_len (by decide +kernel) (pa_cons (pe_ix ix_tup (pv 0) pe_int (fun _ _ => rfl)) pa_nil))))) pss_nil)
      (pss_cons (ps_if (pt_cmpR op_eq (pv 3) pe_str (nomark _)) (pss_one (ps_ret (pe_op op_add (pv 1) (pe_callB (cr_sum rfl) rfl T.b_sum (by decide +kernel) (pa_cons (pe_lock (pe_lc (own := [("name", 4)]) (g := gName 4) rfl sc_size.nd (pi_keys (pv 0)) (blkOk_by (own := [("name", 4)]) (N := nm_size) (sc := defScope s_size) (by decide +kernel)) (fun _ _ _ _ _ => pg_name (i := 4) sc_size.nd rfl (Or.inl rfl)) (fun _ _ _ _ _ => pts_nil) (fun _ _ _ _ _ => (pe_callB call_lenV rfl T.b_len (by decide +kernel) (pa_cons (pv 4) pa_nil))))) pa_nil))))) pss_nil)
      (pss_one (ps_ret (pv 1))))))))), ?_⟩
      have hzp := sizeP x
      have hdp := depth_parts x
      refine ⟨_, rfl, v, x, rfl, rep, hok, by omega, fun p xs H1 s1 e1 r1 => ?_⟩
      refine ⟨p, rfl, ⟨xs, SqL.of e1⟩, for_list (K := K) (a := p) (xs := xs) (fun i σ H2 => ∃ o, σ = [some v, some (.int (1 + (sizeL ((partsV x).take i) : Int))), o, none, none] ∧ Same H1 H2) ⟨none, rfl, Same.refl _⟩ (fun i σ H2 _ ⟨_, _, s2⟩ => s2.seq (SqL.of e1)) ?_ ?_⟩
      · rintro i y σ H2 hi ⟨o, rfl, s2⟩
        obtain ⟨z, hz1, hz2⟩ := r1.get hi
        have hm := List.mem_of_getElem? hz1
        refine ⟨_, rfl, _, rfl, y, z, rfl, hz2.same s2, okL_mem (ok_parts hok) hm, by have := depthL_mem hm; omega, by have := sizeL_mem hm; omega, fun H3 s3 => ?_⟩
        refine ⟨_, _, rfl, rfl, some y, ?_, s2.trans s3⟩
        rw [sizeL_take hz1, ← Int.add_assoc]
        rfl
      · rintro σ H2 ⟨o, rfl, s2⟩
        have el : xs.length = (partsV x).length := r1.length
        rw [el, List.take_length]
        have rep2 := rep.same (s1.trans s2)
        refine ⟨_, rfl, v, x, rfl, rep2.rd, ?_⟩
        cases x with
        | txt z =>
          refine ⟨_, rfl, rfl, _, rfl, iteT ?_⟩
          refine ⟨_, rfl, _, rfl, v, .txt z, rfl, rep2.rd, rfl, by simp only [sizeV] at hz; show z.length ≤ _; omega, _, _, rfl, rfl, ?_⟩
          have := q H2 (s1.trans s2)
          simp only [sizeV, partsV, sizeL] at this ⊢
          simpa [lenV] using this
        | act o n l =>
          refine ⟨_, rfl, rfl, _, rfl, iteF ?_⟩
          refine ⟨_, rfl, rfl, _, rfl, iteT ?_⟩
          cases rep2 with
          | act h g r =>
          refine ⟨_, rfl, _, rfl, _, _, _, _, rfl, rfl, SqT.of h, rfl, _, .txt n, rfl, .txt n, rfl, by simp only [sizeV] at hz; show n.length ≤ _; omega, _, _, rfl, rfl, ?_⟩
          have := q H2 (s1.trans s2)
          simp only [sizeV, partsV] at this ⊢
          have e : (1 + (sizeL l : Int) + ((lenV (.txt n) : Nat) : Int)) = ((1 + n.length + sizeL l : Nat) : Int) := by simp only [lenV]; omega
          rw [e]
          exact this
        | rcd ks l =>
          refine ⟨_, rfl, rfl, _, rfl, iteF ?_⟩
          refine ⟨_, rfl, rfl, _, rfl, iteF ?_⟩
          refine ⟨_, rfl, rfl, _, rfl, iteT ?_⟩
          cases rep2 with
          | @rcd d kvs _ _ h k r =>
          have hlk : kvs.length = ks.length := by simpa using congrArg List.length k
          have h40 := (ok_rcd hok).2.2.1
          refine ⟨_, rfl, ?_⟩
          refine ⟨d, _, h, trivial, fun od => ?_⟩
          refine ⟨_, rfl, d, od, rfl, .inl ⟨kvs, upd_same, fun D hD => ?_⟩⟩
          refine lc_it walk_keys (fun i H3 => Same (upd H2 d (.frz od (.dK kvs))) H3 ∧ H3 D = some (.lst ((ks.take i).map fun k => V.int (k.length : Nat)))) ⟨same_new hD _, upd_same⟩ (fun i H1 _ z => z.1 _ _ upd_same) ?_ ?_
          · rintro i y H3 H4 hi ⟨s3, e3⟩ ⟨rfl, k', v', hk, rfl⟩
            obtain ⟨s', rfl, hs'⟩ := key_at k hk
            refine ⟨rfl, ?_⟩
            refine ⟨_, rfl, _, .txt s', rfl, .txt s', rfl, ?_, _, e3, lt_line (by rw [List.length_map, List.length_take]; omega), same_mut s3 hD _, ?_⟩
            · have := lens_mem (List.mem_of_getElem? hs')
              simp only [sizeV] at hz
              show s'.length ≤ _
              omega
            · rw [upd_same, take_succ_get hs', List.map_append]
              rfl
          · rintro H3 ⟨s3, e3⟩
            refine ⟨s3 _ _ upd_same, ?_⟩
            have ne : D ≠ d := fun z => by
              rw [z, s3 _ _ upd_same] at e3
              cases e3
            have s4 := unlock_same h s3
            refine ⟨D, ks.map fun k => (k.length : Int), rfl, SqL.of (by rw [upd_ne ne, e3, hlk, List.take_length, List.map_map]; rfl), ?_⟩
            refine ⟨_, _, rfl, rfl, ?_⟩
            rw [lens_sum]
            have := q _ ((s1.trans s2).trans s4)
            simp only [sizeV, partsV] at this ⊢
            have e : (1 + (sizeL l : Int) + (lens ks : Int)) = ((1 + lens ks + sizeL l : Nat) : Int) := by omega
            rw [e]
            exact this
        | lst l =>
          refine ⟨_, rfl, rfl, _, rfl, iteF ?_⟩
          refine ⟨_, rfl, rfl, _, rfl, iteF ?_⟩
          refine ⟨_, rfl, rfl, _, rfl, iteF ?_⟩
          have := q H2 (s1.trans s2)
          simp only [sizeV] at this
          exact ⟨_, rfl, this⟩
        | _ =>
          refine ⟨_, rfl, rfl, _, rfl, iteF ?_⟩
          refine ⟨_, rfl, rfl, _, rfl, iteF ?_⟩
          refine ⟨_, rfl, rfl, _, rfl, iteF ?_⟩
          exact ⟨_, rfl, q H2 (s1.trans s2)⟩
def optV : Option Str → V
  | some s => .str s
  | none => .non
def spTextOf : Sp := fun vs H Q _ => ∃ v x, vs = [v] ∧ Rep (Rd H) v x ∧ okV x = true ∧ Q (optV (textOf x)) H
theorem log_small {i : Int} (h : i.natAbs ≤ 1000000000000000000000000000000) : i.natAbs.log2 < 1920 := by
  by_cases z : i.natAbs = 0
  · rw [z]
    decide
  · refine (Nat.log2_lt z).mpr (Nat.lt_of_le_of_lt h ?_)
    exact Nat.lt_of_lt_of_le (by decide : 1000000000000000000000000000000 < 2 ^ 100) (Nat.pow_le_pow_right (by decide) (by decide))
theorem ok_text_of (T : Txt P w K mg a) : FnOk P w K mg base CX0 2 a.text_of a.text_of_d ["value"] spTextOf := by
  have G_kind_of_value := ok_kind_of_value (base := base) T
  refine T.text_of.F.ok sc_text_of (fun vs H Q E h => ?_) (fun cdv A outer s H vs Q E hr h => ?_)
  · obtain ⟨v, x, rfl, _⟩ := h
    rfl
  · obtain ⟨v, x, rfl, rep, hok, q⟩ := h
    refine ⟨_, (pss_cons (ps_set (i := 1) sc_text_of.nd rfl (Or.inl rfl) (pe_cd T.kind_of_value G_kind_of_value (hr.mono (by omega)) pass0 (pa_cons (pv 0) pa_nil)))
      (pss_cons (ps_if (pt_cmpR op_eq (pv 1) pe_str (nomark _)) (pss_one (ps_ret pe_str)) pss_nil)
      (pss_cons (ps_if (pt_cmpR op_eq (pv 1) pe_str (nomark _)) (pss_one (ps_ret (pe_ifExp (pt_val (pv 0)) pe_str pe_str))) pss_nil)
      (pss_cons (ps_if (pt_cmpR op_eq (pv 1) pe_str (nomark _)) (pss_one (ps_ret (pe_callTy call_str_int rfl T.b_str (by decide +kernel) (pa_cons (pv 0) pa_nil)))) pss_nil)
      (pss_cons (ps_if (pt_cmpR op_eq (pv 1) pe_str (nomark _)) (pss_one (ps_ret (pv 0))) pss_nil)
      (pss_one (ps_ret pe_non))))))), ?_⟩
    refine ⟨_, rfl, v, x, rfl, rep, ?_⟩
    cases rep with
    | nul => exact ⟨_, rfl, rfl, _, rfl, iteT q⟩
    | boo b =>
      refine ⟨_, rfl, rfl, _, rfl, iteF ⟨_, rfl, rfl, _, rfl, iteT ⟨_, rfl, _, rfl, ?_⟩⟩⟩
      cases b with
      | true => exact iteT q
      | false => exact iteF q
    | num i =>
      refine ⟨_, rfl, rfl, _, rfl, iteF ⟨_, rfl, rfl, _, rfl, iteF ⟨_, rfl, rfl, _, rfl, iteT ⟨_, rfl, i, rfl, log_small (by simpa [okV] using hok), q⟩⟩⟩⟩
    | txt s => exact ⟨_, rfl, rfl, _, rfl, iteF ⟨_, rfl, rfl, _, rfl, iteF ⟨_, rfl, rfl, _, rfl, iteF ⟨_, rfl, rfl, _, rfl, iteT ⟨_, rfl, q⟩⟩⟩⟩⟩
    | _ => exact ⟨_, rfl, rfl, _, rfl, iteF ⟨_, rfl, rfl, _, rfl, iteF ⟨_, rfl, rfl, _, rfl, iteF ⟨_, rfl, rfl, _, rfl, iteF q⟩⟩⟩⟩
end
end K19
namespace K19
open PySem PySem.Spec PyProof.Rows L2
theorem sameL_append {l1 l2 m1 m2 : List Val} (h : l1.length = m1.length) : sameL (l1 ++ l2) (m1 ++ m2) = (sameL l1 m1 && sameL l2 m2) := by
  induction l1 generalizing m1 with
  | nil => cases m1 with
    | nil => simp [sameL]
    | cons _ _ => simp at h
  | cons x r ih => cases m1 with
    | nil => simp at h
    | cons y s =>
      simp only [List.cons_append, sameL, ih (by simpa using h), Bool.and_assoc]
theorem sameL_len : ∀ {l m : List Val}, l.length ≠ m.length → sameL l m = false
  | [], [], h => absurd rfl h
  | [], _ :: _, _ => by simp [sameL]
  | _ :: _, [], _ => by simp [sameL]
  | x :: r, y :: s, h => by
    simp only [sameL]
    rw [sameL_len (l := r) (m := s) (by simpa using h), Bool.and_false]
theorem sameL_at {l m : List Val} {i : Nat} {x y : Val} (h : l.length = m.length) (hx : l[i]? = some x) (hy : m[i]? = some y) : sameL (l.take (i + 1)) (m.take (i + 1)) = (sameL (l.take i) (m.take i) && sameV x y) := by
  rw [take_succ_get hx, take_succ_get hy, sameL_append (by rw [List.length_take, List.length_take, h])]
  simp [sameL]
theorem sameL_drop {l m : List Val} (i : Nat) (h : l.length = m.length) (q : sameL (l.take i) (m.take i) = false) : sameL l m = false := by
  have := sameL_append (l1 := l.take i) (l2 := l.drop i) (m1 := m.take i) (m2 := m.drop i) (by rw [List.length_take, List.length_take, h])
  rw [List.take_append_drop, List.take_append_drop] at this
  rw [this, q, Bool.false_and]
theorem sameR_append {l1 l2 : List Val} {k1 k2 js : List Str} {b : List Val} (h : l1.length = k1.length) : sameR (l1 ++ l2) (k1 ++ k2) js b = (sameR l1 k1 js b && sameR l2 k2 js b) := by
  induction l1 generalizing k1 with
  | nil => cases k1 with
    | nil => simp [sameR]
    | cons _ _ => simp at h
  | cons x r ih => cases k1 with
    | nil => simp at h
    | cons k s =>
      simp only [List.cons_append, sameR, ih (by simpa using h), Bool.and_assoc]
def fieldS (x : Val) (k : Str) (js : List Str) (b : List Val) : Bool := match getK js b k with | some y => sameV x y | none => false
theorem sameR_at {l : List Val} {ks js : List Str} {b : List Val} {i : Nat} {x : Val} {k : Str} (h : l.length = ks.length) (hx : l[i]? = some x) (hk : ks[i]? = some k) : sameR (l.take (i + 1)) (ks.take (i + 1)) js b = (sameR (l.take i) (ks.take i) js b && fieldS x k js b) := by
  rw [take_succ_get hx, take_succ_get hk, sameR_append (by rw [List.length_take, List.length_take, h])]
  simp only [sameR, fieldS, Bool.and_true] <;> rfl
theorem sameR_drop {l : List Val} {ks js : List Str} {b : List Val} (i : Nat) (h : l.length = ks.length) (q : sameR (l.take i) (ks.take i) js b = false) : sameR l ks js b = false := by
  have := sameR_append (l1 := l.take i) (l2 := l.drop i) (k1 := ks.take i) (k2 := ks.drop i) (js := js) (b := b) (by rw [List.length_take, List.length_take, h])
  rw [List.take_append_drop, List.take_append_drop] at this
  rw [this, q, Bool.false_and]
theorem getK_mem : ∀ {ks : List Str} {l : List Val} {k : Str} {x : Val}, getK ks l k = some x → x ∈ l
  | [], _, _, _, h => by simp [getK] at h
  | _ :: _, [], _, _, h => by simp [getK] at h
  | j :: js, y :: ys, k, x, h => by
    by_cases c : j = k
    · simp only [getK, if_pos c, Option.some.injEq] at h
      subst h
      exact List.mem_cons_self
    · simp only [getK, if_neg c] at h
      exact List.mem_cons_of_mem _ (getK_mem h)
/-- reading goes on where a dict gets locked -/
theorem rd_lock {H : Hp} {d : Addr} {u : HO} {od : Obj} (hd : H d = some u) {b : Addr} {o : HO} (nf : ∀ od' u', u ≠ .frz od' u') (h : Rd H b o) : Rd (upd H d (.frz od u)) b o := by
  by_cases hb : b = d
  · subst hb
    rcases h with h | ⟨o', h⟩
    · rw [hd] at h
      cases h
      exact .inr ⟨od, upd_same⟩
    · rw [hd] at h
      cases h
      exact absurd rfl (nf _ _)
  · rcases h with h | ⟨o', h⟩
    · exact .inl ((upd_ne hb).trans h)
    · exact .inr ⟨o', (upd_ne hb).trans h⟩
theorem mem_size {x : Val} {y : Val} (h : y ∈ partsV x) : sizeV y ≤ sizeV x := Nat.le_trans (sizeL_mem h) (sizeP x)
section
variable {P : Program} {w : World} {K : PySem.W.Frag} {mg : Str → Option Value} {base : Heap} {a : Ads}
def spSame (n : Nat) : Sp := fun vs H Q _ => ∃ v u x y, vs = [v, u] ∧ Rep (At H) v x ∧ Rep (Rd H) u y ∧ okV x = true ∧ okV y = true ∧ depthV x ≤ n ∧ sizeV x ≤ 9000000 ∧ sizeV y ≤ 9000000 ∧ ∀ H', Same H H' → Q (.bl (sameV x y)) H'
def spSameM (n : Nat) : Sp := fun vs H Q _ => ∃ (p q : Addr) (xs ys : List V) (l m : List Val), vs = [.ref p, .ref q] ∧ H p = some (.lst xs) ∧ Rd H q (.lst ys) ∧ RepL (At H) xs l ∧ RepL (Rd H) ys m ∧ okL l = true ∧ okL m = true ∧ depthL l ≤ n ∧ sizeL l ≤ 9000000 ∧ sizeL m ≤ 9000000 ∧
  ∀ H', Same H H' → Q (.bl (sameL l m)) H'
def spSameF (n : Nat) : Sp := fun vs H Q _ => ∃ (d e : Addr) (ks js : List Str) (l m : List Val), vs = [.ref d, .ref e] ∧ Rep (At H) (.ref d) (.rcd ks l) ∧ Rep (Rd H) (.ref e) (.rcd js m) ∧ okV (.rcd ks l) = true ∧ okV (.rcd js m) = true ∧ depthL l ≤ n ∧ sizeV (.rcd ks l) ≤ 9000000 ∧ sizeV (.rcd js m) ≤ 9000000 ∧
  ∀ H', Same H H' → Q (.bl (ks.length == js.length && sameR l ks js m)) H'
theorem ok_same_members (T : Txt P w K mg a) {n : Nat} (G_same : FnOk P w K mg base CX0 (2 * n + 2) a.same a.same_d ["first", "second"] (spSame n)) : FnOk P w K mg base CX0 (2 * n + 3) a.same_members a.same_members_d ["first", "second"] (spSameM n) := by
  refine T.same_members.F.ok sc_same_members (fun vs H Q E h => ?_) (fun cdv A outer s H vs Q E hr h => ?_)
  · obtain ⟨p, q, xs, ys, l, m, rfl, _⟩ := h
    rfl
  · obtain ⟨p, q, xs, ys, l, m, rfl, e1, e2, r1, r2, o1, o2, hd, z1, z2, k⟩ := h
    refine ⟨_, (pss_cons (ps_if (pt_cmpR op_ne (pe_callB call_lenV rfl T.b_len (by decide +kernel) (pa_cons (pv 0) pa_nil)) (pe_callB call_lenV rfl T.b_len (by decide +kernel) (pa_cons (pv 1) pa_nil)) (nomark _)) (pss_one (ps_ret pe_bl)) pss_nil)
      (pss_cons (ps_for PassesOwn.never rfl (pi_range1 rfl T.b_range (pa_cons (pe_callB call_lenV rfl T.b_len (by decide +kernel) (pa_cons (pv 0) pa_nil)) pa_nil)) (pg_name (i := 2) sc_same_members.nd rfl (Or.inl rfl)) (pss_one (ps_if (pt_not (pt_val (pe_cd T.same G_same (hr.mono (by omega)) pass0 (pa_cons (pe_ix ix_list (pv 0) (pv 2) (fun _ _ => rfl)) (pa_cons (pe_ix ix_list (pv 1) (pv 2) (fun _ _ => rfl)) pa_nil))))) (pss_one (ps_ret pe_bl)) pss_nil)))
      (pss_one (ps_ret pe_bl)))), ?_⟩
    have h1 := sizeL_len l
    have h2 := sizeL_len m
    refine ⟨_, rfl, _, .lst l, rfl, .lst (.inl e1) r1.rd, rfl, by show l.length ≤ _; omega, ?_⟩
    refine ⟨_, rfl, _, .lst m, rfl, .lst e2 r2, rfl, by show m.length ≤ _; omega, rfl, _, rfl, ?_⟩
    by_cases c : l.length = m.length
    · have c' : V.int ((lenV (.lst l) : Nat) : Int) = V.int ((lenV (.lst m) : Nat) : Int) := by simp only [lenV, c]
      refine iteNS c' ?_
      have hxl : xs.length = l.length := r1.length
      refine ⟨_, rfl, _, .lst l, rfl, .lst (.inl e1) r1.rd, rfl, by show l.length ≤ _; omega, _, rfl, ?_, ?_, ?_⟩
      · show -(2 ^ 62) ≤ ((l.length : Nat) : Int)
        omega
      · show ((l.length : Nat) : Int) < 2 ^ 62
        omega
      refine for_range (lo := 0) (n := l.length) (fun i σ H2 => ∃ o, σ = [some (.ref p), some (.ref q), o] ∧ Same H H2 ∧ sameL (l.take i) (m.take i) = true) ⟨none, rfl, Same.refl _, by simp [sameL]⟩ ?_ ?_
      · rintro i σ H2 hi ⟨o, rfl, s2, t2⟩
        obtain ⟨x, hx⟩ := getD_some hi
        obtain ⟨y, hy⟩ := getD_some (l := m) (by omega : i < m.length)
        obtain ⟨v, hv, rv⟩ := r1.get' hx
        obtain ⟨u, hu, ru⟩ := r2.get' hy
        have hix : atI xs (0 + (i : Int)) = some v := by rw [Int.zero_add]; exact atI_nat hv
        have hiy : atI ys (0 + (i : Int)) = some u := by rw [Int.zero_add]; exact atI_nat hu
        have mx := List.mem_of_getElem? hx
        have my := List.mem_of_getElem? hy
        have k1 := depthL_mem mx
        have k2 := sizeL_mem mx
        have k3 := sizeL_mem my
        refine ⟨_, rfl, _, rfl, p, xs, _, v, rfl, rfl, SqL.of (s2 _ _ e1), hix, _, rfl, _, rfl, q, ys, _, u, rfl, rfl, .inl (rd_same s2 e2), hiy, ?_⟩
        refine ⟨v, u, x, y, rfl, rv.same s2, ru.rds s2, okL_mem o1 mx, okL_mem o2 my, by omega, by omega, by omega, fun H3 s3 => ⟨_, rfl, ?_⟩⟩
        cases t3 : sameV x y with
        | true =>
          refine iteF ⟨_, rfl, s2.trans s3, ?_⟩
          rw [sameL_at c hx hy, t2, t3]
          rfl
        | false =>
          refine iteT ?_
          have e3 : sameL l m = false := sameL_drop (i + 1) c (by rw [sameL_at c hx hy, t3, Bool.and_false])
          have := k H3 (s2.trans s3)
          rw [e3] at this
          exact this
      · rintro σ H2 ⟨o, rfl, s2, t2⟩
        have := k H2 s2
        rw [List.take_length, c, List.take_length] at t2
        rw [t2] at this
        exact this
    · have c' : ¬ V.int ((lenV (.lst l) : Nat) : Int) = V.int ((lenV (.lst m) : Nat) : Int) := by
        simp only [lenV, V.int.injEq]
        omega
      rw [decide_eq_false c']
      refine iteT ?_
      have := k H (Same.refl H)
      rw [sameL_len c] at this
      exact this
theorem ok_same_fields (T : Txt P w K mg a) {n : Nat} (G_same : FnOk P w K mg base CX0 (2 * n + 2) a.same a.same_d ["first", "second"] (spSame n)) : FnOk P w K mg base CX0 (2 * n + 3) a.same_fields a.same_fields_d ["first", "second"] (spSameF n) := by
  refine T.same_fields.F.ok sc_same_fields (fun vs H Q E h => ?_) (fun cdv A outer s H vs Q E hr h => ?_)
  · obtain ⟨p, q, xs, ys, l, m, rfl, _⟩ := h
    rfl
  · obtain ⟨d, e, ks, js, l, m, rfl, rd, re, o1, o2, hd, z1, z2, k⟩ := h
    refine ⟨_, (pss_cons (ps_if (pt_cmpR op_ne (pe_callB call_lenV rfl T.b_len (by decide +kernel) (pa_cons (pv 0) pa_nil)) (pe_callB call_lenV rfl T.b_len (by decide +kernel) (pa_cons (pv 1) pa_nil)) (nomark _)) (pss_one (ps_ret pe_bl)) pss_nil)
      (pss_cons (ps_lock (ps_for PassesOwn.never rfl (pi_keys (pv 0)) (pg_name (i := 2) sc_same_fields.nd rfl (Or.inl rfl)) (pss_one (ps_if (PW.pt (pw_or (pt_cmp (pc_dnotin (hu_of hr) (pv 2) (pv 1))) (pw_or1 (pt_not (pt_val (pe_cd T.same G_same (hr.mono (by omega)) pass0 (pa_cons (pe_dget (hu_of hr) (pv 0) (pv 2) (fun _ _ => rfl)) (pa_cons (pe_dget (hu_of hr) (pv 1) (pv 2) (fun _ _ => rfl)) pa_nil)))))))) (pss_one (ps_ret pe_bl)) pss_nil))))
      (pss_one (ps_ret pe_bl)))), ?_⟩
    have k1 := (ok_rcd o1).2.2.1
    have k2 := (ok_rcd o2).2.2.1
    have kl := (ok_rcd o1).2.1
    refine ⟨_, rfl, _, _, rfl, rd.rd, rfl, by show ks.length ≤ _; omega, ?_⟩
    refine ⟨_, rfl, _, _, rfl, re, rfl, by show js.length ≤ _; omega, rfl, _, rfl, ?_⟩
    by_cases c : ks.length = js.length
    · have c' : V.int ((lenV (.rcd ks l) : Nat) : Int) = V.int ((lenV (.rcd js m) : Nat) : Int) := by simp only [lenV, c]
      refine iteNS c' ?_
      have rd0 := rd
      cases rd with
      | @rcd _ kvs _ _ hD kD rD =>
      cases re with
      | @rcd _ kve _ _ hE kE rE =>
      have hlk : kvs.length = ks.length := by simpa using congrArg List.length kD
      refine ⟨d, _, hD, trivial, fun od => ?_⟩
      have rdl : ∀ {b : Addr} {o : HO}, Rd H b o → Rd (upd H d (.frz od (.dK kvs))) b o := fun h => rd_lock hD (fun _ _ z => by cases z) h
      refine ⟨_, rfl, d, od, rfl, .inl ⟨kvs, upd_same, ?_⟩⟩
      refine for_it walk_keys (fun i σ H2 => ∃ o, σ = [some (.ref d), some (.ref e), o] ∧ Same (upd H d (.frz od (.dK kvs))) H2 ∧ sameR (l.take i) (ks.take i) js m = true) ⟨none, rfl, Same.refl _, by simp [sameR]⟩ (fun i σ H2 _ ⟨_, _, s2, _⟩ => s2 _ _ upd_same) ?_ ?_
      · rintro i y σ H2 H3 hi ⟨o, rfl, s2, t2⟩ ⟨rfl, k', v', hk, rfl⟩
        obtain ⟨nm, rfl, hnm⟩ := key_at kD hk
        have hdl : H3 d = some (.frz od (.dK kvs)) := s2 _ _ upd_same
        have hv' : (kvs.map (·.2))[i]? = some v' := by rw [List.getElem?_map, hk]; rfl
        obtain ⟨x, hx, rx⟩ := rD.get hv'
        have mx := List.mem_of_getElem? hx
        have dx := depthL_mem mx
        have rx' : Rep (At (upd H d (.frz od (.dK kvs)))) v' x := Rep.under rd0 rx (by simp only [depthV]; omega)
        have szx : sizeV x ≤ 9000000 := Nat.le_trans (mem_size (x := .rcd ks l) mx) z1
        have fin : ∀ H4, Same H3 H4 → fieldS x nm js m = false → H4 d = some (.frz od (.dK kvs)) ∧ Q (.bl false) (upd H4 d (.dK kvs)) := fun H4 s4 q => by
          have s5 := s2.trans s4
          refine ⟨s5 _ _ upd_same, ?_⟩
          have := k _ (unlock_same hD s5)
          rw [sameR_drop (i + 1) kl.symm (by rw [sameR_at kl.symm hx hnm, q, Bool.and_false]), Bool.and_false] at this
          exact this
        refine ⟨_, rfl, _, rfl, e, _, rfl, .inl ⟨kve, .inr nm, rd_same s2 (rdl hE), rfl, rfl⟩, _, rfl, ?_⟩
        rcases rE.val nm kE with ⟨u, y, hu, hy, ru⟩ | ⟨hu, hy⟩
        · rw [hu]
          refine iteF ?_
          have my := getK_mem hy
          have szy : sizeV y ≤ 9000000 := Nat.le_trans (mem_size (x := .rcd js m) my) z2
          refine ⟨_, rfl, _, rfl, d, v', rfl, .inl ⟨kvs, .inr nm, .inr ⟨od, hdl⟩, rfl, (valV_at (nd_keys kD (ok_rcd o1).1) hk).symm⟩, _, rfl, _, rfl, e, u, rfl, .inl ⟨kve, .inr nm, rd_same s2 (rdl hE), rfl, hu.symm⟩, ?_⟩
          refine ⟨v', u, x, y, rfl, rx'.same s2, ru.mono (fun b o h => rd_same s2 (rdl h)), okL_mem (ok_rcd o1).2.2.2 mx, okL_mem (ok_rcd o2).2.2.2 my, by omega, szx, szy, fun H4 s4 => ⟨_, rfl, ?_⟩⟩
          have ef : fieldS x nm js m = sameV x y := by simp [fieldS, hy]
          cases t3 : sameV x y with
          | true =>
            refine iteF ⟨_, rfl, s2.trans s4, ?_⟩
            rw [sameR_at kl.symm hx hnm, t2, ef, t3]
            rfl
          | false =>
            refine iteT ?_
            exact fin H4 s4 (ef.trans t3)
        · rw [hu]
          refine iteT (iteT ?_)
          exact fin H3 (Same.refl _) (by simp [fieldS, hy])
      · rintro σ H2 ⟨o, rfl, s2, t2⟩
        refine ⟨s2 _ _ upd_same, ?_⟩
        have := k _ (unlock_same hD s2)
        rw [hlk, kl, List.take_length, ← kl, List.take_length] at t2
        rw [t2, c, Bool.and_true, beq_self_eq_true] at this
        exact this
    · have c' : ¬ V.int ((lenV (.rcd ks l) : Nat) : Int) = V.int ((lenV (.rcd js m) : Nat) : Int) := by
        simp only [lenV, V.int.injEq]
        omega
      rw [decide_eq_false c']
      refine iteT ?_
      have := k H (Same.refl H)
      have e : (ks.length == js.length) = false := by simpa using c
      rw [e, Bool.false_and] at this
      exact this
theorem kind_sc {x y : Val} (h : kindN x = kindN y) : ((∃ l m, x = .lst l ∧ y = .lst m) ∨ (∃ ks l js m, x = .rcd ks l ∧ y = .rcd js m) ∨ (∃ o n l p m k, x = .act o n l ∧ y = .act p m k)) ∨
    ((x = .nul ∧ y = .nul) ∨ (∃ b c, x = .boo b ∧ y = .boo c) ∨ (∃ i j, x = .num i ∧ y = .num j) ∨ ∃ s t, x = .txt s ∧ y = .txt t) := by
  cases x <;> cases y <;> first
    | (simp only [kindN] at h; exact absurd h (by decide +kernel))
    | simp
theorem kind_ne {x y : Val} (h : ¬ kindN x = kindN y) : sameV x y = false := by
  cases x <;> cases y <;> first
    | exact absurd rfl h
    | rfl
theorem dec_V {α : Type} [DecidableEq α] (f : α → V) (inj : ∀ a b, f a = f b → a = b) (a b : α) : decide (f a = f b) = (a == b) := by
  by_cases e : a = b
  · subst e
    simp
  · have h : ¬ f a = f b := fun z => e (inj _ _ z)
    rw [decide_eq_false h]
    simpa using e
theorem ok_same (T : Txt P w K mg a) : ∀ n : Nat, FnOk P w K mg base CX0 (2 * n + 2) a.same a.same_d ["first", "second"] (spSame n)
  | 0 => fn_none fun vs H Q E h => by
    obtain ⟨v, u, x, y, _, _, _, _, _, h, _⟩ := h
    have := depthV_pos x
    omega
  | n + 1 => by
    have G_kind_of_value := ok_kind_of_value (base := base) T
    have G_same_members := ok_same_members T (ok_same T n)
    have G_same_fields := ok_same_fields T (ok_same T n)
    refine T.same.F.ok sc_same (fun vs H Q E h => ?_) (fun cdv A outer s H vs Q E hr h => ?_)
    · obtain ⟨v, u, x, y, rfl, _⟩ := h
      rfl
    · obtain ⟨v, u, x, y, rfl, rv, ru, o1, o2, hd, z1, z2, q⟩ := h
      refine ⟨_, (pss_cons (ps_set (i := 2) sc_same.nd rfl (Or.inl rfl) (pe_cd T.kind_of_value G_kind_of_value (hr.mono (by omega)) pass0 (pa_cons (pv 0) pa_nil)))
      (pss_cons (ps_if (pt_cmpR op_ne (pv 2) (pe_cd T.kind_of_value G_kind_of_value (hr.mono (by omega)) pass0 (pa_cons (pv 1) pa_nil)) (nomark _)) (pss_one (ps_ret pe_bl)) pss_nil)
      (pss_cons (ps_if (pt_cmpR op_eq (pv 2) pe_str (nomark _)) (pss_one (ps_ret (pe_cd T.same_members G_same_members (hr.mono (by omega)) pass0 (pa_cons (pv 0) (pa_cons (pv 1) pa_nil))))) pss_nil)
      (pss_cons (ps_if (pt_cmpR op_eq (pv 2) pe_str (nomark _)) (pss_one (ps_ret (pe_cd T.same_fields G_same_fields (hr.mono (by omega)) pass0 (pa_cons (pv 0) (pa_cons (pv 1) pa_nil))))) pss_nil)
      (pss_cons (ps_if (pt_cmpR op_eq (pv 2) pe_str (nomark _)) (pss_one (ps_ret (pe_and (pe_cmpR op_eq (pe_ix ix_tup (pv 0) pe_int (fun _ _ => rfl)) (pe_ix ix_tup (pv 1) pe_int (fun _ _ => rfl)) (nomark _)) (pe_and (pe_cmpR op_eq (pe_ix ix_tup (pv 0) pe_int (fun _ _ => rfl)) (pe_ix ix_tup (pv 1) pe_int (fun _ _ => rfl)) (nomark _)) (pe_one (pe_cd T.same_members G_same_members (hr.mono (by omega)) pass0 (pa_cons (pe_ix ix_tup (pv 0) pe_int (fun _ _ => rfl)) (pa_cons (pe_ix ix_tup (pv 1) pe_int (fun _ _ => rfl)) pa_nil)))))))) pss_nil)
      (pss_one (ps_ret (pe_cmpR op_eq (pv 0) (pv 1) (nomark _))))))))), ?_⟩
      refine ⟨_, rfl, v, x, rfl, rv.rd, ?_⟩
      refine ⟨_, rfl, _, rfl, u, y, rfl, ru, rfl, _, rfl, ?_⟩
      by_cases c : kindN x = kindN y
      · have c' : V.str (kindN x) = V.str (kindN y) := by rw [c]
        refine iteNS c' ?_
        rcases kind_sc c with (⟨l, m, rfl, rfl⟩ | ⟨ks, l, js, m, rfl, rfl⟩ | ⟨o, nn, l, p, mm, m, rfl, rfl⟩) | h
        · cases rv with
          | lst h r =>
          cases ru with
          | lst g t =>
          refine ⟨_, rfl, rfl, _, rfl, iteT ?_⟩
          refine ⟨_, rfl, _, rfl, _, _, _, _, l, m, rfl, h, g, r, t, o1, o2, by simp only [depthV] at hd; omega, by simp only [sizeV] at z1; omega, by simp only [sizeV] at z2; omega, fun H' s => ?_⟩
          exact q H' s
        · have rv0 := rv
          have ru0 := ru
          cases rv with
          | rcd h _ _ =>
          cases ru with
          | rcd g _ _ =>
          refine ⟨_, rfl, rfl, _, rfl, iteF ⟨_, rfl, rfl, _, rfl, iteT ?_⟩⟩
          exact ⟨_, rfl, _, rfl, _, _, ks, js, l, m, rfl, rv0, ru0, o1, o2, by simp only [depthV] at hd; omega, z1, z2, fun H' s => q H' s⟩
        · cases rv with
          | act h h' r =>
          cases ru with
          | act g g' t =>
          refine ⟨_, rfl, rfl, _, rfl, iteF ⟨_, rfl, rfl, _, rfl, iteF ⟨_, rfl, rfl, _, rfl, iteT ?_⟩⟩⟩
          refine ⟨_, rfl, _, _, _, _, rfl, rfl, SqT.of h, rfl, _, rfl, _, _, _, _, rfl, rfl, .inl g, rfl, rfl, _, rfl, ?_⟩
          by_cases e1 : o = p
          · subst e1
            rw [decide_eq_true rfl]
            refine iteT ?_
            refine ⟨_, rfl, _, _, _, _, rfl, rfl, SqT.of h, rfl, _, rfl, _, _, _, _, rfl, rfl, .inl g, rfl, rfl, _, rfl, ?_⟩
            by_cases e2 : nn = mm
            · subst e2
              rw [decide_eq_true rfl]
              refine iteT ?_
              refine ⟨_, rfl, _, _, _, _, rfl, rfl, SqT.of h, rfl, _, rfl, _, _, _, _, rfl, rfl, .inl g, rfl, ?_⟩
              refine ⟨_, _, _, _, l, m, rfl, h', g', r, t, ?_, ?_, by simp only [depthV] at hd; omega, by simp only [sizeV] at z1; omega, by simp only [sizeV] at z2; omega, fun H' s => ?_⟩
              · exact ok_parts (x := .act o nn l) o1
              · exact ok_parts (x := .act o nn m) o2
              · have := q H' s
                simp only [sameV, beq_self_eq_true, Bool.true_and] at this
                exact this
            · have c2 : ¬ V.str nn = V.str mm := fun z => e2 (by injection z)
              rw [decide_eq_false c2]
              have := q H (Same.refl H)
              have e3 : (nn == mm) = false := by simpa using e2
              simp only [sameV, e3, beq_self_eq_true, Bool.true_and, Bool.false_and] at this
              exact iteF this
          · have c2 : ¬ V.int o = V.int p := fun z => e1 (by injection z)
            rw [decide_eq_false c2]
            have := q H (Same.refl H)
            have e3 : (o == p) = false := by simpa using e1
            simp only [sameV, e3, Bool.false_and] at this
            exact iteF this
        · have fin : ∀ (b : Bool), V.bl b = V.bl (sameV x y) → Q (.bl b) H := fun b e => by
            rw [e]
            exact q H (Same.refl H)
          rcases h with ⟨rfl, rfl⟩ | ⟨b, c, rfl, rfl⟩ | ⟨i, j, rfl, rfl⟩ | ⟨s, t, rfl, rfl⟩
          · cases rv
            cases ru
            exact ⟨_, rfl, rfl, _, rfl, iteF ⟨_, rfl, rfl, _, rfl, iteF ⟨_, rfl, rfl, _, rfl, iteF ⟨_, rfl, _, rfl, rfl, fin _ rfl⟩⟩⟩⟩
          · cases rv
            cases ru
            exact ⟨_, rfl, rfl, _, rfl, iteF ⟨_, rfl, rfl, _, rfl, iteF ⟨_, rfl, rfl, _, rfl, iteF ⟨_, rfl, _, rfl, rfl, fin _ (congrArg V.bl dec_bl)⟩⟩⟩⟩
          · cases rv
            cases ru
            exact ⟨_, rfl, rfl, _, rfl, iteF ⟨_, rfl, rfl, _, rfl, iteF ⟨_, rfl, rfl, _, rfl, iteF ⟨_, rfl, _, rfl, rfl, fin _ (congrArg V.bl dec_int)⟩⟩⟩⟩
          · cases rv
            cases ru
            exact ⟨_, rfl, rfl, _, rfl, iteF ⟨_, rfl, rfl, _, rfl, iteF ⟨_, rfl, rfl, _, rfl, iteF ⟨_, rfl, _, rfl, rfl, fin _ (congrArg V.bl dec_str)⟩⟩⟩⟩
      · have c' : ¬ V.str (kindN x) = V.str (kindN y) := fun z => c (by injection z)
        rw [decide_eq_false c']
        have := q H (Same.refl H)
        rw [kind_ne c] at this
        exact iteT this
end
end K19
namespace K19
open PySem PySem.Spec PyProof.Rows L2
/-- a dict comprehension over a walk -/
theorem dc_it {J : It} {n : Nat} {G : Hp → Prop} {Y : Nat → Hp → V → Hp → Prop} (w : Walk J n G Y) {g : TG} {tt : TT} {tk tv : TE} {vs : List Nat} {σ : L2.St} {H1 : Hp} {D : Addr} {Qd : Hp → Prop} (Pv : Nat → Hp → Prop)
    (h0 : Pv 0 (upd H1 D (.dK []))) (hG : ∀ i H, i ≤ n → Pv i H → G H)
    (hs : ∀ i x H Hx, i < n → Pv i H → Y i H x Hx → g x (wipe σ vs) Hx fun σ2 H2 => wipe σ2 vs = wipe σ vs ∧ tt σ2 H2 fun b H3 =>
      if b = true then tk σ2 H3 fun y H4 => tv σ2 H4 fun z H5 => ∃ kvs k, y = kV k ∧ H5 D = some (.dK kvs) ∧ kvs.length < sizeLine ∧ Pv (i + 1) (upd H5 D (.dK (putK kvs k z))) else Pv (i + 1) H3) (hd : ∀ H, Pv n H → Qd H) :
    ∃ W : Nat → Nat → Hp → Prop, (∃ left, W 0 left (upd H1 D (.dK []))) ∧ ∀ i left G, W i left G →
      (J.stop i G ∧ Qd G) ∨ (J.go i G ∧ ∃ Nx : Hp → Prop, (∀ H', Nx H' → ∃ l2, l2 < left ∧ W (i + 1) l2 H') ∧ ∀ x H', J.yld i G x H' → g x (wipe σ vs) H' fun σ2 H2 => wipe σ2 vs = wipe σ vs ∧ tt σ2 H2 fun b H3 =>
        if b = true then tk σ2 H3 fun kk H4 => tv σ2 H4 fun vv H5 => ∃ ps q, kk = kV q ∧ H5 D = some (.dK ps) ∧ ps.length < sizeLine ∧ Nx (upd H5 D (.dK (putK ps q vv))) else Nx H3) := by
  refine ⟨fun i m H => m = n - i ∧ i ≤ n ∧ Pv i H, ⟨n, rfl, Nat.zero_le _, h0⟩, ?_⟩
  rintro i m H ⟨rfl, hi, p⟩
  by_cases hlt : i < n
  · exact .inr ⟨w.goes i H hlt (hG i H hi p), Pv (i + 1), fun _ p' => ⟨_, by omega, rfl, hlt, p'⟩, fun x H' y => hs i x H H' hlt p (w.yields i H x H' hlt (hG i H hi p) y)⟩
  · obtain rfl : i = n := by omega
    exact .inl ⟨w.stops H (hG _ H hi p), hd H p⟩
section
variable {H0 H H' : Hp} {D : Addr} {o o' : HO} {xs : List V} {l : List Val}
theorem FreshL.upd (h : FreshL H0 H xs l) (hD : H0 D ≠ none) : FreshL H0 (L2.upd H D o) xs l := by
  obtain ⟨F, p, n, f⟩ := h
  exact ⟨F, p.keep fun a ha => upd_ne fun e => by rw [e] at ha; exact hD (f _ ha), n, f⟩
theorem Fresh.updN {v : V} {x : Val} (h : Fresh H0 H v x) (hD : H0 D ≠ none) : Fresh H0 (L2.upd H D o) v x := by
  obtain ⟨F, p, n, f⟩ := h
  exact ⟨F, p.keep fun a ha => upd_ne fun e => by rw [e] at ha; exact hD (f _ ha), n, f⟩
theorem FreshL.lst (h : FreshL (L2.upd H0 D o) H xs l) (hD : H0 D = none) (e : H D = some (.lst xs)) : Fresh H0 H (.ref D) (.lst l) := by
  obtain ⟨F, p, n, f⟩ := h
  have nD : D ∉ F := fun m => by
    have := f _ m
    rw [upd_same] at this
    cases this
  refine ⟨D :: F, .lst e p, List.nodup_cons.mpr ⟨nD, n⟩, fun a ha => ?_⟩
  rcases List.mem_cons.mp ha with e | m
  · rw [e]
    exact hD
  · have := f a m
    rw [upd_ne fun e => nD (by rw [← e]; exact m)] at this
    exact this
theorem FreshL.rcd {kvs : List (Key × V)} {ks : List Str} (h : FreshL (L2.upd H0 D o) H (kvs.map (·.2)) l) (hD : H0 D = none) (e : H D = some (.dK kvs)) (k : kvs.map (·.1) = ks.map Sum.inr) : Fresh H0 H (.ref D) (.rcd ks l) := by
  obtain ⟨F, p, n, f⟩ := h
  have nD : D ∉ F := fun m => by
    have := f _ m
    rw [upd_same] at this
    cases this
  refine ⟨D :: F, .rcd e k p, List.nodup_cons.mpr ⟨nD, n⟩, fun a ha => ?_⟩
  rcases List.mem_cons.mp ha with e | m
  · rw [e]
    exact hD
  · have := f a m
    rw [upd_ne fun e => nD (by rw [← e]; exact m)] at this
    exact this
/-- a new act around a new list -/
theorem Fresh.act {p b : Addr} {oo : Int} {n : Str} (h : Fresh H0 H (.ref b) (.lst l)) (s : Same H0 H) (hp : H p = none) : Fresh H0 (L2.upd H p (.tup [.str "act", .int oo, .str n, .ref b])) (.ref p) (.act oo n l) := by
  obtain ⟨F, q, nd, f⟩ := h
  have nP : p ∉ F := fun m => q.there _ m hp
  have q' := q.keep (H' := L2.upd H p (.tup [.str "act", .int oo, .str n, .ref b])) fun a ha => upd_ne fun e => by rw [e] at ha; exact nP ha
  cases q' with
  | lst g r =>
  refine ⟨p :: b :: _, .act upd_same g r, List.nodup_cons.mpr ⟨nP, nd⟩, fun a ha => ?_⟩
  rcases List.mem_cons.mp ha with e | m
  · rw [e]
    exact s.free hp
  · exact f a m
/-- the ground may forget what a lock has written -/
theorem Fresh.unlock {d : Addr} {u : HO} {v : V} {x : Val} (h : Fresh (L2.upd H0 d o) H v x) (hd : H0 d ≠ none) : Fresh H0 (L2.upd H d u) v x := by
  obtain ⟨F, p, n, f⟩ := h
  have nd : d ∉ F := fun m => by
    have := f _ m
    rw [upd_same] at this
    cases this
  refine ⟨F, p.keep fun a ha => upd_ne fun e => nd (by rw [← e]; exact ha), n, fun a ha => ?_⟩
  have := f a ha
  rw [upd_ne fun e => nd (by rw [← e]; exact ha)] at this
  exact this
end
theorem tIf_same {A B : Prop} (h : A) : if true = true then A else B := by
  rw [if_pos rfl]
  exact h
/-- a comprehension each of whose items is a value of its own -/
theorem lc_fresh {J : It} {n : Nat} {G : Hp → Prop} {Y : Nat → V → Prop} (w : Walk J n G (fun i H x H' => H' = H ∧ Y i x)) {te : TE} {vs : List Nat} {j : Nat} {σ : L2.St} {H : Hp} {D : Addr} {Qd : Hp → Prop} {l : List Val}
    (hD : H D = none) (hl : l.length = n) (hn : n ≤ 9000000) (hG : ∀ H1, Same H H1 → G H1) (hw : ∀ y, wipe ((wipe σ vs).set j (some y)) vs = wipe σ vs)
    (hs : ∀ i y x H1 (Q' : VK), l[i]? = some x → Same H H1 → Y i y → (∀ z H3, Same H1 H3 → Fresh H1 H3 z x → Q' z H3) → te ((wipe σ vs).set j (some y)) H1 Q')
    (hd : ∀ H1, Same H H1 → Fresh H H1 (.ref D) (.lst l) → Qd H1) :
    ∃ W : Nat → Nat → Hp → Prop, (∃ m, W 0 m (upd H D (.lst []))) ∧ ∀ i m H, W i m H →
      (J.stop i H ∧ Qd H) ∨ (J.go i H ∧ ∃ Nx : Hp → Prop, (∀ H', Nx H' → ∃ m', m' < m ∧ W (i + 1) m' H') ∧ ∀ x H', J.yld i H x H' → gName j x (wipe σ vs) H' fun σ2 H2 => wipe σ2 vs = wipe σ vs ∧ tYes σ2 H2 fun b H3 =>
        if b = true then te σ2 H3 fun z H4 => ∃ xs, H4 D = some (.lst xs) ∧ xs.length < sizeLine ∧ Nx (upd H4 D (.lst (xs ++ [z]))) else Nx H3) := by
  have hDn : (upd H D (.lst [])) D ≠ none := by rw [upd_same]; simp
  refine lc_it w (fun i H1 => Same H H1 ∧ Gr (upd H D (.lst [])) H1 ∧ ∃ acc, H1 D = some (.lst acc) ∧ acc.length = i ∧ FreshL (upd H D (.lst [])) H1 acc (l.take i)) ⟨same_new hD _, fun _ h => h, [], upd_same, rfl, FreshL.nil⟩ (fun i H1 _ z => hG H1 z.1) ?_ ?_
  · rintro i y H1 H2 hi ⟨s1, g1, acc, e1, el, f1⟩ ⟨rfl, hy⟩
    obtain ⟨x, hx⟩ := getD_some (l := l) (by omega : i < l.length)
    refine ⟨hw y, ?_⟩
    simp only [tYes, if_true]
    refine hs i y x H2 _ hx s1 hy fun z H3 s3 f3 => ?_
    refine ⟨acc, s3 _ _ e1, lt_line (by omega), same_mut (s1.trans s3) hD _, (g1.trans (Gr.of s3)).upd _ _, acc ++ [z], upd_same, by simp [el], ?_⟩
    rw [take_succ_get hx]
    exact (f1.snoc g1 f3 s3).upd hDn
  · rintro H1 ⟨s1, g1, acc, e1, el, f1⟩
    rw [← hl, List.take_length] at f1
    exact hd H1 s1 (f1.lst hD e1)
/-- .. a dict comprehension over a dict's own names -/
theorem dc_fresh {J : It} {n : Nat} {G : Hp → Prop} {Y : Nat → V → Prop} (w : Walk J n G (fun i H x H' => H' = H ∧ Y i x)) {tk tv : TE} {vs : List Nat} {j : Nat} {σ : L2.St} {H : Hp} {D : Addr} {Qd : Hp → Prop} {l : List Val} {ks : List Str}
    (hD : H D = none) (hl : l.length = n) (hk : ks.length = n) (nd : ks.Nodup) (hn : n ≤ 9000000) (hG : ∀ H1, Same H H1 → G H1) (hw : ∀ y, wipe ((wipe σ vs).set j (some y)) vs = wipe σ vs)
    (hs : ∀ i y x k H1 (Q' : VK), l[i]? = some x → ks[i]? = some k → Same H H1 → Y i y → (∀ z H3, Same H1 H3 → Fresh H1 H3 z x → Q' z H3) → tk ((wipe σ vs).set j (some y)) H1 fun y2 H2 => y2 = .str k ∧ tv ((wipe σ vs).set j (some y)) H2 Q')
    (hd : ∀ H1, Same H H1 → Fresh H H1 (.ref D) (.rcd ks l) → Qd H1)
    (hmono : ∀ σ H Q Q', (∀ y H, Q y H → Q' y H) → tk σ H Q → tk σ H Q') :
    ∃ W : Nat → Nat → Hp → Prop, (∃ left, W 0 left (upd H D (.dK []))) ∧ ∀ i m H, W i m H →
      (J.stop i H ∧ Qd H) ∨ (J.go i H ∧ ∃ Nx : Hp → Prop, (∀ H', Nx H' → ∃ m', m' < m ∧ W (i + 1) m' H') ∧ ∀ x H', J.yld i H x H' → gName j x (wipe σ vs) H' fun σ2 H2 => wipe σ2 vs = wipe σ vs ∧ tYes σ2 H2 fun b H3 =>
        if b = true then tk σ2 H3 fun kk H4 => tv σ2 H4 fun vv H5 => ∃ ps q, kk = kV q ∧ H5 D = some (.dK ps) ∧ ps.length < sizeLine ∧ Nx (upd H5 D (.dK (putK ps q vv))) else Nx H3) := by
  have hDn : (upd H D (.dK [])) D ≠ none := by rw [upd_same]; simp
  refine dc_it w (fun i H1 => Same H H1 ∧ Gr (upd H D (.dK [])) H1 ∧ ∃ kvs, H1 D = some (.dK kvs) ∧ kvs.map (·.1) = (ks.take i).map Sum.inr ∧ FreshL (upd H D (.dK [])) H1 (kvs.map (·.2)) (l.take i)) ⟨same_new hD _, fun _ h => h, [], upd_same, rfl, FreshL.nil⟩ (fun i H1 _ z => hG H1 z.1) ?_ ?_
  · rintro i y H1 H2 hi ⟨s1, g1, kvs, e1, ek, f1⟩ ⟨rfl, hy⟩
    obtain ⟨x, hx⟩ := getD_some (l := l) (by omega : i < l.length)
    obtain ⟨k, hk'⟩ := getD_some (l := ks) (by omega : i < ks.length)
    refine ⟨hw y, ?_⟩
    simp only [tYes, if_true]
    refine hmono _ _ (fun y2 H4 => y2 = .str k ∧ tv ((wipe σ vs).set j (some y)) H4 fun z H5 => ∃ kvs k', V.str k = kV k' ∧ H5 D = some (.dK kvs) ∧ kvs.length < sizeLine ∧ Same H (upd H5 D (.dK (putK kvs k' z))) ∧ Gr (upd H D (.dK [])) (upd H5 D (.dK (putK kvs k' z))) ∧ ∃ kv2, upd H5 D (.dK (putK kvs k' z)) D = some (.dK kv2) ∧ kv2.map (·.1) = (ks.take (i + 1)).map Sum.inr ∧ FreshL (upd H D (.dK [])) (upd H5 D (.dK (putK kvs k' z))) (kv2.map (·.2)) (l.take (i + 1))) _ ?_ (hs i y x k H2 _ hx hk' s1 hy fun z H3 s3 f3 => ?_)
    · rintro y2 H4 ⟨rfl, q⟩
      exact q
    have el : kvs.length = i := by
      have := congrArg List.length ek
      simp only [List.length_map, List.length_take] at this
      omega
    have new : valV kvs (Sum.inr k : Key) = none := by
      cases q : valV kvs (Sum.inr k : Key) with
      | none => rfl
      | some v =>
        have m := valV_in q
        rw [ek] at m
        obtain ⟨k2, m2, e2⟩ := List.mem_map.mp m
        cases e2
        obtain ⟨i2, h2, e2⟩ := List.mem_iff_getElem.mp m2
        rw [List.length_take] at h2
        rw [List.getElem_take] at e2
        obtain ⟨h3, e3⟩ := List.getElem?_eq_some_iff.mp hk'
        have := (List.getElem_inj nd).mp (e2.trans e3.symm)
        omega
    refine ⟨kvs, Sum.inr k, rfl, s3 _ _ e1, lt_line (by omega), same_mut (s1.trans s3) hD _, (g1.trans (Gr.of s3)).upd _ _, _, upd_same, ?_, ?_⟩
    · rw [putK_new _ new, List.map_append, ek, take_succ_get hk', List.map_append]
      rfl
    · rw [putK_new _ new, List.map_append, take_succ_get hx]
      exact (f1.snoc g1 f3 s3).upd hDn
  · rintro H1 ⟨s1, g1, kvs, e1, ek, f1⟩
    rw [← hl, List.take_length] at f1
    rw [← hk, List.take_length] at ek
    exact hd H1 s1 (f1.rcd hD e1 ek)
section
variable {P : Program} {w : World} {K : PySem.W.Frag} {mg : Str → Option Value} {base : Heap} {a : Ads}
def spCopied (n : Nat) : Sp := fun vs H Q _ => ∃ v x, vs = [v] ∧ Rep (At H) v x ∧ okV x = true ∧ depthV x ≤ n ∧ sizeV x ≤ 9000000 ∧ ∀ r H', Same H H' → Fresh H H' r x → Q r H'
theorem ok_copied (T : Txt P w K mg a) : ∀ n : Nat, FnOk P w K mg base CX0 (n + 2) a.copied a.copied_d ["value"] (spCopied n)
  | 0 => fn_none fun vs H Q E h => by
    obtain ⟨v, x, _, _, _, h, _⟩ := h
    have := depthV_pos x
    omega
  | n + 1 => by
    have G_kind_of_value := ok_kind_of_value (base := base) T
    have G_copied := ok_copied T n
    refine T.copied.F.ok sc_copied (fun vs H Q E h => ?_) (fun cdv A outer s H vs Q E hr h => ?_)
    · obtain ⟨v, x, rfl, _⟩ := h
      rfl
    · obtain ⟨v, x, rfl, rep, hok, hd, hz, q⟩ := h
      refine ⟨_, (pss_cons (ps_set (i := 1) sc_copied.nd rfl (Or.inl rfl) (pe_cd T.kind_of_value G_kind_of_value (hr.mono (by omega)) pass0 (pa_cons (pv 0) pa_nil)))
      (pss_cons (ps_if (pt_cmpR op_eq (pv 1) pe_str (nomark _)) (pss_one (ps_ret (pe_lc (own := [("part", 2)]) (g := gName 2) rfl sc_copied.nd (pi_list (pv 0)) (blkOk_by (own := [("part", 2)]) (N := nm_copied) (sc := defScope s_copied) (by decide +kernel)) (fun _ _ _ _ _ => pg_name (i := 2) sc_copied.nd rfl (Or.inl rfl)) (fun _ _ _ _ _ => pts_nil) (fun _ _ _ _ _ => (pe_cd T.copied G_copied (hr.mono (by omega)) pass0 (pa_cons (pv 2) pa_nil)))))) pss_nil)
      (pss_cons (ps_if (pt_cmpR op_eq (pv 1) pe_str (nomark _)) (pss_one (ps_ret (pe_lock (pe_dc (own := [("name", 3)]) (g := gName 3) rfl sc_copied.nd (pi_keys (pv 0)) (blkOk_by (own := [("name", 3)]) (N := nm_copied) (sc := defScope s_copied) (by decide +kernel)) (fun _ _ _ _ _ => pg_name (i := 3) sc_copied.nd rfl (Or.inl rfl)) (fun _ _ _ _ _ => pts_nil) (fun _ _ _ _ _ => (pv 3)) (fun _ _ _ _ _ => (pe_cd T.copied G_copied (hr.mono (by omega)) pass0 (pa_cons (pe_dget (hu_of hr) (pv 0) (pv 3) (fun _ _ => rfl)) pa_nil))))))) pss_nil)
      (pss_cons (ps_if (pt_cmpR op_eq (pv 1) pe_str (nomark _)) (pss_one (ps_ret (pe_tup (pa_cons pe_str (pa_cons (pe_ix ix_tup (pv 0) pe_int (fun _ _ => rfl)) (pa_cons (pe_ix ix_tup (pv 0) pe_int (fun _ _ => rfl)) (pa_cons (pe_lc (own := [("part", 2)]) (g := gName 2) rfl sc_copied.nd (pi_list (pe_ix ix_tup (pv 0) pe_int (fun _ _ => rfl))) (blkOk_by (own := [("part", 2)]) (N := nm_copied) (sc := defScope s_copied) (by decide +kernel)) (fun _ _ _ _ _ => pg_name (i := 2) sc_copied.nd rfl (Or.inl rfl)) (fun _ _ _ _ _ => pts_nil) (fun _ _ _ _ _ => (pe_cd T.copied G_copied (hr.mono (by omega)) pass0 (pa_cons (pv 2) pa_nil)))) pa_nil))))))) pss_nil)
      (pss_one (ps_ret (pv 0))))))), ?_⟩
      refine ⟨_, rfl, v, x, rfl, rep.rd, ?_⟩
      cases rep with
      | @lst p xs l h r =>
        refine ⟨_, rfl, rfl, _, rfl, iteT ?_⟩
        simp only [depthV, sizeV] at hd hz
        have hl := sizeL_len l
        refine ⟨_, rfl, p, rfl, ⟨xs, SqL.of h⟩, fun D hD => ?_⟩
        refine lc_fresh (l := l) walk_list hD r.length.symm (by rw [r.length]; omega) (fun H1 s => s.seq (SqL.of h)) (fun _ => rfl) ?_ fun H1 s1 f1 => q _ _ s1 f1
        intro i y x H1 Q' hx s1 hy q'
        obtain ⟨x', hx', rx⟩ := r.get hy
        rw [hx] at hx'
        cases hx'
        have mx := List.mem_of_getElem? hx
        have k1 := depthL_mem mx
        have k2 := sizeL_mem mx
        exact ⟨_, rfl, y, x, rfl, rx.same s1, okL_mem (ok_parts (x := .lst l) hok) mx, by omega, by omega, q'⟩
      | @act p b oo nm xs l h g r =>
        refine ⟨_, rfl, rfl, _, rfl, iteF ⟨_, rfl, rfl, _, rfl, iteF ⟨_, rfl, rfl, _, rfl, iteT ?_⟩⟩⟩
        simp only [depthV, sizeV] at hd hz
        have hl := sizeL_len l
        refine ⟨_, rfl, _, _, _, _, rfl, rfl, SqT.of h, rfl, _, rfl, _, _, _, _, rfl, rfl, SqT.of h, rfl, _, rfl, _, _, _, _, rfl, rfl, SqT.of h, rfl, b, rfl, ⟨xs, SqL.of g⟩, fun D hD => ?_⟩
        refine lc_fresh (l := l) walk_list hD r.length.symm (by rw [r.length]; omega) (fun H1 s => s.seq (SqL.of g)) (fun _ => rfl) ?_ fun H1 s1 f1 => ⟨by show 4 ≤ sizeLine; decide, fun p hp => q _ _ (same_snoc s1 hp _) (f1.act s1 hp)⟩
        intro i y x H1 Q' hx s1 hy q'
        obtain ⟨x', hx', rx⟩ := r.get hy
        rw [hx] at hx'
        cases hx'
        have mx := List.mem_of_getElem? hx
        have k1 := depthL_mem mx
        have k2 := sizeL_mem mx
        exact ⟨_, rfl, y, x, rfl, rx.same s1, okL_mem (ok_parts (x := .act oo nm l) hok) mx, by omega, by omega, q'⟩
      | @rcd d kvs ks l h k r =>
        refine ⟨_, rfl, rfl, _, rfl, iteF ⟨_, rfl, rfl, _, rfl, iteT ?_⟩⟩
        have rep0 : Rep (At H) (.ref d) (.rcd ks l) := .rcd h k r
        simp only [depthV, sizeV] at hd hz
        have hl := sizeL_len l
        have hlk : kvs.length = ks.length := by simpa using congrArg List.length k
        have hkl := (ok_rcd hok).2.1
        have nd := (ok_rcd hok).1
        refine ⟨d, _, h, trivial, fun od => ?_⟩
        refine ⟨_, rfl, d, od, rfl, .inl ⟨kvs, upd_same, fun D hD => ?_⟩⟩
        have hdn : H d ≠ none := by rw [h]; simp
        refine dc_fresh (l := l) (ks := ks) (Y := fun i x => ∃ k v, kvs[i]? = some (k, v) ∧ x = kV k) walk_keys hD (by omega) hlk.symm nd (by omega) (fun H1 s => s _ _ upd_same) (fun _ => rfl) ?_ (fun H1 s1 f1 => ⟨s1 _ _ upd_same, q _ _ (unlock_same h s1) (f1.unlock hdn)⟩) (fun σ H Q Q' f h => by obtain ⟨v, e, q⟩ := h; exact ⟨v, e, f _ _ q⟩)
        rintro i y x nm H1 Q' hx hk' s1 ⟨k', v', hkv, rfl⟩ q'
        obtain ⟨nm', rfl, hnm⟩ := key_at k hkv
        rw [hk'] at hnm
        cases hnm
        have mx := List.mem_of_getElem? hx
        have k1 := depthL_mem mx
        have k2 := sizeL_mem mx
        have hv' : (kvs.map (·.2))[i]? = some v' := by rw [List.getElem?_map, hkv]; rfl
        obtain ⟨x', hx', rx⟩ := r.get hv'
        rw [hx] at hx'
        cases hx'
        have rx' : Rep (At (upd H d (.frz od (.dK kvs)))) v' x := Rep.under rep0 rx (by simp only [depthV]; omega)
        refine ⟨_, rfl, rfl, ?_⟩
        refine ⟨_, rfl, _, rfl, d, v', rfl, .inl ⟨kvs, .inr nm, .inr ⟨od, s1 _ _ upd_same⟩, rfl, (valV_at (nd_keys k nd) hkv).symm⟩, ?_⟩
        exact ⟨v', x, rfl, rx'.same s1, okL_mem (ok_rcd hok).2.2.2 mx, by omega, by omega, q'⟩
      | nul => exact ⟨_, rfl, rfl, _, rfl, iteF ⟨_, rfl, rfl, _, rfl, iteF ⟨_, rfl, rfl, _, rfl, iteF ⟨_, rfl, q _ _ (Same.refl H) Fresh.nul⟩⟩⟩⟩
      | boo b => exact ⟨_, rfl, rfl, _, rfl, iteF ⟨_, rfl, rfl, _, rfl, iteF ⟨_, rfl, rfl, _, rfl, iteF ⟨_, rfl, q _ _ (Same.refl H) (Fresh.boo b)⟩⟩⟩⟩
      | num i => exact ⟨_, rfl, rfl, _, rfl, iteF ⟨_, rfl, rfl, _, rfl, iteF ⟨_, rfl, rfl, _, rfl, iteF ⟨_, rfl, q _ _ (Same.refl H) (Fresh.num i)⟩⟩⟩⟩
      | txt s => exact ⟨_, rfl, rfl, _, rfl, iteF ⟨_, rfl, rfl, _, rfl, iteF ⟨_, rfl, rfl, _, rfl, iteF ⟨_, rfl, q _ _ (Same.refl H) (Fresh.txt s)⟩⟩⟩⟩
end
end K19
namespace K19
open PySem PySem.Spec PyProof.Rows L2
theorem sc_bounded_number : FnScope nm_bounded_number ["number"] (defScope s_bounded_number) := ⟨rfl, rfl, rfl, by decide +kernel, rfl, by decide +kernel, by decide +kernel⟩
theorem sc_bounded_text : FnScope nm_bounded_text ["text"] (defScope s_bounded_text) := ⟨rfl, rfl, rfl, by decide +kernel, rfl, by decide +kernel, by decide +kernel⟩
theorem sc_bounded : FnScope nm_bounded ["value"] (defScope s_bounded) := ⟨rfl, rfl, rfl, by decide +kernel, rfl, by decide +kernel, by decide +kernel⟩
theorem sc_need_boolean : FnScope nm_need_boolean ["value"] (defScope s_need_boolean) := ⟨rfl, rfl, rfl, by decide +kernel, rfl, by decide +kernel, by decide +kernel⟩
theorem sc_need_number : FnScope nm_need_number ["value"] (defScope s_need_number) := ⟨rfl, rfl, rfl, by decide +kernel, rfl, by decide +kernel, by decide +kernel⟩
theorem sc_need_list : FnScope nm_need_list ["value"] (defScope s_need_list) := ⟨rfl, rfl, rfl, by decide +kernel, rfl, by decide +kernel, by decide +kernel⟩
theorem sc_need_record : FnScope nm_need_record ["value"] (defScope s_need_record) := ⟨rfl, rfl, rfl, by decide +kernel, rfl, by decide +kernel, by decide +kernel⟩

/-! ### == of rows of texts -/
theorem dp_strs {K : PySem.W.Frag} {H : Hp} : ∀ ss : List Str, DpAll K H (ss.map V.str) (ss.map PyData.str)
  | [] => .nil
  | s :: r => .cons (.str s) (dp_strs r)
theorem eqv_strs : ∀ ss ts : List Str, PyData.eqvAll (ss.map PyData.str) (ts.map PyData.str) = decide (ss = ts)
  | [], [] => rfl
  | [], _ :: _ => rfl
  | _ :: _, [] => rfl
  | s :: r, t :: q => by
    show (PyData.eqv (.str s) (.str t) && PyData.eqvAll (r.map PyData.str) (q.map PyData.str)) = _
    rw [eqv_strs r q]
    have : PyData.eqv (.str s) (.str t) = decide (s = t) := by
      show (s == t) = _
      by_cases e : s = t
      · subst e
        simp
      · simp [e]
    rw [this]
    simp
theorem canLay_strs : ∀ ss : List Str, okK ss = true → PyData.canLayAll0 (ss.map PyData.str) = true
  | [], _ => rfl
  | s :: r, h => by
    simp only [okK, List.all_cons, Bool.and_eq_true] at h
    show (PyData.canLay0 (.str s) && PyData.canLayAll0 (r.map PyData.str)) = true
    rw [canLay_strs r h.2, Bool.and_true]
    exact h.1
theorem depth_strs : ∀ ss : List Str, PyData.depthAll (ss.map PyData.str) = 0
  | [] => rfl
  | s :: r => by
    show max (PyData.depth (.str s)) (PyData.depthAll (r.map PyData.str)) = 0
    rw [depth_strs r]
    rfl
theorem shaped_t {ss : List Str} (h : okK ss = true) : SeqAt.shaped (.tuple (ss.map PyData.str)) = true := by
  show (PyData.canLayAll0 (ss.map PyData.str) && decide (PyData.depthAll (ss.map PyData.str) + 1 ≤ 64)) = true
  rw [canLay_strs ss h, depth_strs ss]
  rfl
theorem shaped_l {ss : List Str} (h : okK ss = true) : SeqAt.shaped (.list (ss.map PyData.str)) = true := by
  show (PyData.canLayAll0 (ss.map PyData.str) && decide (PyData.depthAll (ss.map PyData.str) + 1 ≤ 64)) = true
  rw [canLay_strs ss h, depth_strs ss]
  rfl
/-- two rows of texts; T: tuples, else lists -/
def rRow (K : PySem.W.Frag) (T neg : Bool) : R2 := fun x y H Q => ∃ p q ss ts, x = .ref p ∧ y = .ref q ∧ (if T = true then SqT K H p (ss.map V.str) ∧ SqT K H q (ts.map V.str) else SqL K H p (ss.map V.str) ∧ SqL K H q (ts.map V.str)) ∧ okK ss = true ∧ okK ts = true ∧
  Q (.bl (if neg = true then !decide (ss = ts) else decide (ss = ts))) H
section
variable {X : Cx}
theorem op_eqTT (hu : X.A.units + 64 < cLine) : OpR X (compareOp .Eq) (rRow X.K true false) := by
  rintro pins s σ H x y v u Q I rx ry ⟨p, q, ss, ts, rfl, rfl, ⟨h1, h2⟩, k1, k2, z⟩
  refine op_eqD hu pins s σ H _ _ v u Q I rx ry ⟨_, _, .tup h1 (dp_strs ss), .tup h2 (dp_strs ts), shaped_t k1, shaped_t k2, ?_⟩
  have e : PyData.eqv (.tuple (ss.map PyData.str)) (.tuple (ts.map PyData.str)) = decide (ss = ts) := eqv_strs ss ts
  rw [e]
  exact z
theorem op_neTT (hu : X.A.units + 64 < cLine) : OpR X (compareOp .NotEq) (rRow X.K true true) := by
  rintro pins s σ H x y v u Q I rx ry ⟨p, q, ss, ts, rfl, rfl, ⟨h1, h2⟩, k1, k2, z⟩
  refine op_neD hu pins s σ H _ _ v u Q I rx ry ⟨_, _, .tup h1 (dp_strs ss), .tup h2 (dp_strs ts), shaped_t k1, shaped_t k2, ?_⟩
  have e : PyData.eqv (.tuple (ss.map PyData.str)) (.tuple (ts.map PyData.str)) = decide (ss = ts) := eqv_strs ss ts
  rw [e]
  exact z
theorem op_eqLL (hu : X.A.units + 64 < cLine) : OpR X (compareOp .Eq) (rRow X.K false false) := by
  rintro pins s σ H x y v u Q I rx ry ⟨p, q, ss, ts, rfl, rfl, ⟨h1, h2⟩, k1, k2, z⟩
  refine op_eqD hu pins s σ H _ _ v u Q I rx ry ⟨_, _, .lst h1 (dp_strs ss), .lst h2 (dp_strs ts), shaped_l k1, shaped_l k2, ?_⟩
  have e : PyData.eqv (.list (ss.map PyData.str)) (.list (ts.map PyData.str)) = decide (ss = ts) := eqv_strs ss ts
  rw [e]
  exact z
theorem op_neLL (hu : X.A.units + 64 < cLine) : OpR X (compareOp .NotEq) (rRow X.K false true) := by
  rintro pins s σ H x y v u Q I rx ry ⟨p, q, ss, ts, rfl, rfl, ⟨h1, h2⟩, k1, k2, z⟩
  refine op_neD hu pins s σ H _ _ v u Q I rx ry ⟨_, _, .lst h1 (dp_strs ss), .lst h2 (dp_strs ts), shaped_l k1, shaped_l k2, ?_⟩
  have e : PyData.eqv (.list (ss.map PyData.str)) (.list (ts.map PyData.str)) = decide (ss = ts) := eqv_strs ss ts
  rw [e]
  exact z
end
theorem kind_ok (x : Val) : (kindN x).cps.all (· < 0x110000) = true := by
  cases x <;> kernel_rfl
theorem kinds_ok (x y : Val) : okK [kindN x, kindN y] = true := by
  simp only [okK, List.all_cons, List.all_nil, kind_ok, Bool.and_self]
theorem iteD {b : Bool} {A B : Prop} (e : b = true) (h : A) : if b = true then A else B := by
  rw [if_pos e]
  exact h
theorem iteE {b : Bool} {A B : Prop} (e : b = false) (h : B) : if b = true then A else B := by
  rw [if_neg (by rw [e]; exact Bool.false_ne_true)]
  exact h
/-! ### raised -/
/-- a Fault with this message is let out -/
def Bad (C : Addr) (H : Hp) (E : XK) (m : Str) : Prop := ∀ d H', Same H H' → H' d = some (.xd [(("message" : Str), .str m)]) → E (.ref C) (some d) H'
theorem Bad.later {C : Addr} {H H' : Hp} {E : XK} {m : Str} (h : Bad C H E m) (s : Same H H') : Bad C H' E m := fun d H2 s2 e => h d H2 (s.trans s2) e
/-- what the call gives: the value itself, or the fault -/
def AnsI (C : Addr) (H : Hp) (r : Except Str α) (q : α → Prop) (E : XK) : Prop := match r with
  | .ok y => q y
  | .error m => Bad C H E m
theorem AnsI.ok {C : Addr} {H : Hp} {y : α} {q : α → Prop} {E : XK} (h : q y) : AnsI C H (.ok y) q E := h
theorem AnsI.bad {C : Addr} {H : Hp} {m : Str} {q : α → Prop} {E : XK} (h : Bad C H E m) : AnsI C H (.error m) q E := h
section
variable {P : Program} {w : World} {K : PySem.W.Frag} {mg : Str → Option Value} {base : Heap} {a : Ads}
def spBNum (C : Addr) : Sp := fun vs H Q E => ∃ i : Int, vs = [.int i] ∧ AnsI C H (mNum i) (fun _ => Q (.int i) H) E
theorem ok_bounded_number (T : Txt P w K mg a) : FnOk P w K mg base (L2.CX P w) 2 a.bounded_number a.bounded_number_d ["number"] (spBNum a.flt) := by
  refine T.bounded_number.F.okX sc_bounded_number (fun vs H Q E h => ?_) (fun cdv A outer s H vs Q E hr h => ?_)
  · obtain ⟨i, rfl, _⟩ := h
    rfl
  · obtain ⟨i, rfl, q⟩ := h
    refine ⟨_, (pss_cons (ps_if (pt_cmpR op_gt (pe_callB call_abs rfl T.b_abs (by decide +kernel) (pa_cons (pv 0) pa_nil)) (pe_gint T.c_MOST_NUMBER) (nomark _)) (pss_one (ps_raiseFlt rfl T.flt hr (takes_of rfl rfl rfl rfl) (pa_cons pe_str pa_nil))) pss_nil)
      (pss_one (ps_ret (pv 0)))), ?_⟩
    refine ⟨_, rfl, i, rfl, _, _, rfl, rfl, ?_⟩
    unfold mNum at q
    by_cases c : i.natAbs > 1000000000000000000000000000000
    · rw [if_pos c] at q
      refine ⟨_, rfl, ?_⟩
      refine iteD (decide_eq_true (by split <;> omega)) ?_
      exact ⟨_, rfl, fun d hd => q d _ (same_new hd _) upd_same⟩
    · rw [if_neg c] at q
      refine ⟨_, rfl, ?_⟩
      refine iteE (decide_eq_false (by split <;> omega)) ?_
      exact ⟨_, rfl, q⟩
def spBText (C : Addr) : Sp := fun vs H Q E => ∃ t : Str, vs = [.str t] ∧ t.length ≤ 9000000 ∧ AnsI C H (mTxt t) (fun _ => Q (.str t) H) E
theorem ok_bounded_text (T : Txt P w K mg a) : FnOk P w K mg base (L2.CX P w) 2 a.bounded_text a.bounded_text_d ["text"] (spBText a.flt) := by
  refine T.bounded_text.F.okX sc_bounded_text (fun vs H Q E h => ?_) (fun cdv A outer s H vs Q E hr h => ?_)
  · obtain ⟨i, rfl, _⟩ := h
    rfl
  · obtain ⟨t, rfl, hl, q⟩ := h
    refine ⟨_, (pss_cons (ps_if (pt_cmpR op_gt (pe_callB call_lenV rfl T.b_len (by decide +kernel) (pa_cons (pv 0) pa_nil)) (pe_gint T.c_MOST_CHARACTERS) (nomark _)) (pss_one (ps_raiseFlt rfl T.flt hr (takes_of rfl rfl rfl rfl) (pa_cons pe_str pa_nil))) pss_nil)
      (pss_one (ps_ret (pv 0)))), ?_⟩
    refine ⟨_, rfl, _, .txt t, rfl, .txt t, rfl, by show t.length ≤ _; omega, _, _, rfl, rfl, ?_⟩
    unfold mTxt at q
    by_cases c : t.length > 2000
    · rw [if_pos c] at q
      refine ⟨_, rfl, ?_⟩
      refine iteD (decide_eq_true (by show (2000 : Int) < (t.length : Nat); omega)) ?_
      exact ⟨_, rfl, fun d hd => q d _ (same_new hd _) upd_same⟩
    · rw [if_neg c] at q
      refine ⟨_, rfl, ?_⟩
      refine iteE (decide_eq_false (by show ¬ (2000 : Int) < (t.length : Nat); omega)) ?_
      exact ⟨_, rfl, q⟩
def spBounded (C : Addr) : Sp := fun vs H Q E => ∃ v x, vs = [v] ∧ Rep (At H) v x ∧ okV x = true ∧ depthV x ≤ 21 ∧ sizeV x ≤ 9000000 ∧ AnsI C H (mMade x) (fun _ => ∀ H', Same H H' → Q v H') E
theorem ok_bounded (T : Txt P w K mg a) : FnOk P w K mg base (L2.CX P w) 26 a.bounded a.bounded_d ["value"] (spBounded a.flt) := by
  have G_kind_of_value := ok_kind_of_value (base := base) T
  have G_depth := ok_depth (base := base) T 21
  have G_size := ok_size (base := base) T 21
  refine T.bounded.F.okX sc_bounded (fun vs H Q E h => ?_) (fun cdv A outer s H vs Q E hr h => ?_)
  · obtain ⟨v, x, rfl, _⟩ := h
    rfl
  · obtain ⟨v, x, rfl, rep, hok, hd, hz, q⟩ := h
    refine ⟨_, (pss_cons (ps_if (PW.pt (pw_and (pt_cmpR op_eq (pe_cd T.kind_of_value G_kind_of_value (hr.mono (by omega)) pass0 (pa_cons (pv 0) pa_nil)) pe_str (nomark _)) (pw_and1 (pt_cmpR op_gt (pe_callB call_lenV rfl T.b_len (by decide +kernel) (pa_cons (pv 0) pa_nil)) (pe_gint T.c_MOST_MEMBERS) (nomark _))))) (pss_one (ps_raiseFlt rfl T.flt hr (takes_of rfl rfl rfl rfl) (pa_cons pe_str pa_nil))) pss_nil)
      (pss_cons (ps_if (pt_cmpR op_gt (pe_cd T.depth G_depth (hr.mono (by omega)) pass0 (pa_cons (pv 0) pa_nil)) (pe_gint T.c_MOST_DEPTH) (nomark _)) (pss_one (ps_raiseFlt rfl T.flt hr (takes_of rfl rfl rfl rfl) (pa_cons pe_str pa_nil))) pss_nil)
      (pss_cons (ps_if (pt_cmpR op_gt (pe_cd T.size G_size (hr.mono (by omega)) pass0 (pa_cons (pv 0) pa_nil)) (pe_gint T.c_MOST_SIZE) (nomark _)) (pss_one (ps_raiseFlt rfl T.flt hr (takes_of rfl rfl rfl rfl) (pa_cons pe_str pa_nil))) pss_nil)
      (pss_one (ps_ret (pv 0)))))), ?_⟩
    have tst : ∀ R : Bool → Hp → Prop, R (isLong x) H → tAnd (tTest (tOp rEq (tCall spKind [] E0 (tCons (tVar 0) tNil)) (tC (.str "list")))) (tTest (tOp (rI0 fun i j => .bl (decide (j < i))) (tCB rLenV (tCons (tVar 0) tNil)) (tC (.int 200)))) (start nm_bounded [v]) H R := by
      intro R h
      cases x with
      | lst l =>
        have hl := sizeL_len l
        simp only [sizeV] at hz
        refine ⟨_, rfl, v, _, rfl, rep.rd, rfl, _, rfl, iteD (by rfl) ⟨_, rfl, v, _, rfl, rep.rd, rfl, by show l.length ≤ _; omega, _, _, rfl, rfl, _, rfl, ?_⟩⟩
        have e : decide ((200 : Int) < ((lenV (.lst l) : Nat) : Int)) = isLong (.lst l) := by
          show decide ((200 : Int) < (l.length : Int)) = decide (l.length > 200)
          by_cases c : l.length > 200
          · rw [decide_eq_true c, decide_eq_true (by omega)]
          · rw [decide_eq_false c, decide_eq_false (by omega)]
        rw [e]
        exact h
      | _ => exact ⟨_, rfl, v, _, rfl, rep.rd, rfl, _, rfl, iteE (by rfl) h⟩
    refine tst _ ?_
    unfold mMade at q
    by_cases c : isLong x = true
    · rw [if_pos c] at q
      exact iteD c ⟨_, rfl, fun d hd => q d _ (same_new hd _) upd_same⟩
    · rw [if_neg c] at q
      refine iteE (by simpa using c) ?_
      refine ⟨_, rfl, v, x, rfl, rep, hok, hd, hz, fun H1 s1 => ⟨_, _, rfl, rfl, _, rfl, ?_⟩⟩
      by_cases c2 : depthV x > 20
      · rw [if_pos c2] at q
        refine iteD (decide_eq_true (by omega)) ⟨_, rfl, fun d hd => q d _ (same_snoc s1 hd _) upd_same⟩
      · rw [if_neg c2] at q
        refine iteE (decide_eq_false (by omega)) ?_
        refine ⟨_, rfl, v, x, rfl, rep.same s1, hok, hd, hz, fun H2 s2 => ⟨_, _, rfl, rfl, _, rfl, ?_⟩⟩
        by_cases c3 : sizeV x > 2000
        · rw [if_pos c3] at q
          exact iteD (decide_eq_true (by omega)) ⟨_, rfl, fun d hd => q d _ (same_snoc (s1.trans s2) hd _) upd_same⟩
        · rw [if_neg c3] at q
          exact iteE (decide_eq_false (by omega)) ⟨_, rfl, q _ (s1.trans s2)⟩
def spNeed (C : Addr) (k m : Str) : Sp := fun vs H Q E => ∃ v x, vs = [v] ∧ Rep (Rd H) v x ∧ if kindN x = k then Q v H else Bad C H E m
theorem ok_need_boolean (T : Txt P w K mg a) : FnOk P w K mg base (L2.CX P w) 2 a.need_boolean a.need_boolean_d ["value"] (spNeed a.flt "boolean" "not true or false") := by
  have G_kind_of_value := ok_kind_of_value (base := base) T
  refine T.need_boolean.F.okX sc_need_boolean (fun vs H Q E h => ?_) (fun cdv A outer s H vs Q E hr h => ?_)
  · obtain ⟨v, x, rfl, _⟩ := h
    rfl
  · obtain ⟨v, x, rfl, rep, q⟩ := h
    refine ⟨_, (pss_cons (ps_if (pt_cmpR op_ne (pe_cd T.kind_of_value G_kind_of_value (hr.mono (by omega)) pass0 (pa_cons (pv 0) pa_nil)) pe_str (nomark _)) (pss_one (ps_raiseFlt rfl T.flt hr (takes_of rfl rfl rfl rfl) (pa_cons pe_str pa_nil))) pss_nil)
      (pss_one (ps_ret (pv 0)))), ?_⟩
    refine ⟨_, rfl, v, x, rfl, rep, rfl, _, rfl, ?_⟩
    by_cases c : kindN x = "boolean"
    · rw [if_pos c] at q
      rw [c]
      exact iteF ⟨_, rfl, q⟩
    · rw [if_neg c] at q
      refine iteD (by rw [decide_eq_false (by intro e; injection e with e; exact c e)]; rfl) ⟨_, rfl, fun d hd => q d _ (same_new hd _) upd_same⟩
theorem ok_need_number (T : Txt P w K mg a) : FnOk P w K mg base (L2.CX P w) 2 a.need_number a.need_number_d ["value"] (spNeed a.flt "number" "not a number") := by
  have G_kind_of_value := ok_kind_of_value (base := base) T
  refine T.need_number.F.okX sc_need_number (fun vs H Q E h => ?_) (fun cdv A outer s H vs Q E hr h => ?_)
  · obtain ⟨v, x, rfl, _⟩ := h
    rfl
  · obtain ⟨v, x, rfl, rep, q⟩ := h
    refine ⟨_, (pss_cons (ps_if (pt_cmpR op_ne (pe_cd T.kind_of_value G_kind_of_value (hr.mono (by omega)) pass0 (pa_cons (pv 0) pa_nil)) pe_str (nomark _)) (pss_one (ps_raiseFlt rfl T.flt hr (takes_of rfl rfl rfl rfl) (pa_cons pe_str pa_nil))) pss_nil)
      (pss_one (ps_ret (pv 0)))), ?_⟩
    refine ⟨_, rfl, v, x, rfl, rep, rfl, _, rfl, ?_⟩
    by_cases c : kindN x = "number"
    · rw [if_pos c] at q
      rw [c]
      exact iteF ⟨_, rfl, q⟩
    · rw [if_neg c] at q
      refine iteD (by rw [decide_eq_false (by intro e; injection e with e; exact c e)]; rfl) ⟨_, rfl, fun d hd => q d _ (same_new hd _) upd_same⟩
theorem ok_need_list (T : Txt P w K mg a) : FnOk P w K mg base (L2.CX P w) 2 a.need_list a.need_list_d ["value"] (spNeed a.flt "list" "not a list") := by
  have G_kind_of_value := ok_kind_of_value (base := base) T
  refine T.need_list.F.okX sc_need_list (fun vs H Q E h => ?_) (fun cdv A outer s H vs Q E hr h => ?_)
  · obtain ⟨v, x, rfl, _⟩ := h
    rfl
  · obtain ⟨v, x, rfl, rep, q⟩ := h
    refine ⟨_, (pss_cons (ps_if (pt_cmpR op_ne (pe_cd T.kind_of_value G_kind_of_value (hr.mono (by omega)) pass0 (pa_cons (pv 0) pa_nil)) pe_str (nomark _)) (pss_one (ps_raiseFlt rfl T.flt hr (takes_of rfl rfl rfl rfl) (pa_cons pe_str pa_nil))) pss_nil)
      (pss_one (ps_ret (pv 0)))), ?_⟩
    refine ⟨_, rfl, v, x, rfl, rep, rfl, _, rfl, ?_⟩
    by_cases c : kindN x = "list"
    · rw [if_pos c] at q
      rw [c]
      exact iteF ⟨_, rfl, q⟩
    · rw [if_neg c] at q
      refine iteD (by rw [decide_eq_false (by intro e; injection e with e; exact c e)]; rfl) ⟨_, rfl, fun d hd => q d _ (same_new hd _) upd_same⟩
theorem ok_need_record (T : Txt P w K mg a) : FnOk P w K mg base (L2.CX P w) 2 a.need_record a.need_record_d ["value"] (spNeed a.flt "record" "not a record") := by
  have G_kind_of_value := ok_kind_of_value (base := base) T
  refine T.need_record.F.okX sc_need_record (fun vs H Q E h => ?_) (fun cdv A outer s H vs Q E hr h => ?_)
  · obtain ⟨v, x, rfl, _⟩ := h
    rfl
  · obtain ⟨v, x, rfl, rep, q⟩ := h
    refine ⟨_, (pss_cons (ps_if (pt_cmpR op_ne (pe_cd T.kind_of_value G_kind_of_value (hr.mono (by omega)) pass0 (pa_cons (pv 0) pa_nil)) pe_str (nomark _)) (pss_one (ps_raiseFlt rfl T.flt hr (takes_of rfl rfl rfl rfl) (pa_cons pe_str pa_nil))) pss_nil)
      (pss_one (ps_ret (pv 0)))), ?_⟩
    refine ⟨_, rfl, v, x, rfl, rep, rfl, _, rfl, ?_⟩
    by_cases c : kindN x = "record"
    · rw [if_pos c] at q
      rw [c]
      exact iteF ⟨_, rfl, q⟩
    · rw [if_neg c] at q
      refine iteD (by rw [decide_eq_false (by intro e; injection e with e; exact c e)]; rfl) ⟨_, rfl, fun d hd => q d _ (same_new hd _) upd_same⟩
end
end K19
namespace K19
open PySem PySem.Spec PyProof.Rows L2
theorem sc_field_of : FnScope nm_field_of ["value", "name"] (defScope s_field_of) := ⟨rfl, rfl, rfl, by decide +kernel, rfl, by decide +kernel, by decide +kernel⟩
theorem sc_has_place : FnScope nm_has_place ["value", "place"] (defScope s_has_place) := ⟨rfl, rfl, rfl, by decide +kernel, rfl, by decide +kernel, by decide +kernel⟩
theorem sc_at_place : FnScope nm_at_place ["value", "place"] (defScope s_at_place) := ⟨rfl, rfl, rfl, by decide +kernel, rfl, by decide +kernel, by decide +kernel⟩

theorem valV_get {kvs : List (Key × V)} {k : Key} {v : V} (h : valV kvs k = some v) : ∃ i : Nat, kvs[i]? = some (k, v) := by
  induction kvs with
  | nil => simp [valV] at h
  | cons p r ih =>
    obtain ⟨j, u⟩ := p
    by_cases c : j = k
    · subst c
      simp [valV] at h
      subst h
      exact ⟨0, rfl⟩
    · have : valV r k = some v := by simpa [valV, c] using h
      obtain ⟨i, hi⟩ := ih this
      exact ⟨i + 1, by simpa using hi⟩
section
variable {H0 H : Hp}
theorem OwnL.fresh {xs : List V} {l : List Val} {F : List Addr} (h : OwnL H xs l F) (nd : F.Nodup) (f : ∀ a ∈ F, H0 a = none) {v : V} {y : Val} {i : Nat} (hv : xs[i]? = some v) (r : Rep (At H) v y) : Fresh H0 H v y := by
  obtain ⟨x, G, h1, h2, h3⟩ := h.get hv
  have e := Rep.det (at_det (H := H)) r h2.at_
  subst e
  exact ⟨G, h2, h3.nodup nd, fun a ha => f a (h3.subset ha)⟩
theorem FreshL.get {xs : List V} {l : List Val} (h : FreshL H0 H xs l) {v : V} {i : Nat} (hv : xs[i]? = some v) : ∃ y, l[i]? = some y ∧ Fresh H0 H v y := by
  obtain ⟨F, o, nd, f⟩ := h
  obtain ⟨x, G, h1, h2, h3⟩ := o.get hv
  exact ⟨x, h1, G, h2, h3.nodup nd, fun a ha => f a (h3.subset ha)⟩
theorem Fresh.rcd_val {d : Addr} {ks : List Str} {l : List Val} {kvs : List (Key × V)} (h : Fresh H0 H (.ref d) (.rcd ks l)) (e : H d = some (.dK kvs)) {k : Str} {r : V} {y : Val} (hv : valV kvs (Sum.inr k) = some r) (rr : Rep (At H) r y) : Fresh H0 H r y := by
  obtain ⟨F, o, nd, f⟩ := h
  cases o with
  | rcd h1 k1 r1 =>
  rw [e] at h1
  cases h1
  obtain ⟨i, hi⟩ := valV_get hv
  exact r1.fresh (List.nodup_cons.mp nd).2 (fun a ha => f a (List.mem_cons_of_mem _ ha)) (i := i) (by rw [List.getElem?_map, hi]; rfl) rr
theorem Fresh.lst_get {d : Addr} {l : List Val} {xs : List V} (h : Fresh H0 H (.ref d) (.lst l)) (e : H d = some (.lst xs)) : FreshL H0 H xs l := by
  obtain ⟨F, o, nd, f⟩ := h
  cases o with
  | lst h1 r1 =>
  rw [e] at h1
  cases h1
  exact ⟨_, r1, (List.nodup_cons.mp nd).2, fun a ha => f a (List.mem_cons_of_mem _ ha)⟩
end
section
variable {P : Program} {w : World} {K : PySem.W.Frag} {mg : Str → Option Value} {base : Heap} {a : Ads}
/-- what comes of parts of a value: the part, of its own if the whole is -/
def AnsF (C : Addr) (H0 H : Hp) (r : Res) (Q : VK) (E : XK) : Prop := AnsI C H r (fun y => ∀ r H', Same H H' → Fresh H0 H' r y → Q r H') E
def spField (C : Addr) : Sp := fun vs H Q E => ∃ H0 v x n, vs = [v, .str n] ∧ Fresh H0 H v x ∧ n.length ≤ 1000 ∧ AnsF C H0 H (mField x n) Q E
theorem ok_field_of (T : Txt P w K mg a) : FnOk P w K mg base (L2.CX P w) 2 a.field_of a.field_of_d ["value", "name"] (spField a.flt) := by
  have G_kind_of_value := ok_kind_of_value (base := base) T
  refine T.field_of.F.okX sc_field_of (fun vs H Q E h => ?_) (fun cdv A outer s H vs Q E hr h => ?_)
  · obtain ⟨H0, v, x, n, rfl, _⟩ := h
    rfl
  · obtain ⟨H0, v, x, n, rfl, fr, hn, q⟩ := h
    refine ⟨_, (pss_cons (ps_if (pt_cmpR op_ne (pe_cd T.kind_of_value G_kind_of_value (hr.mono (by omega)) pass0 (pa_cons (pv 0) pa_nil)) pe_str (nomark _)) (pss_one (ps_raiseFlt rfl T.flt hr (takes_of rfl rfl rfl rfl) (pa_cons pe_str pa_nil))) pss_nil)
      (pss_cons (ps_if (pt_cmp (pc_dnotin (hu_of hr) (pv 1) (pv 0))) (pss_one (ps_raiseFlt rfl T.flt hr (takes_of rfl rfl rfl rfl) (pa_cons (pe_op op_add_str pe_str (pv 1)) pa_nil))) pss_nil)
      (pss_one (ps_ret (pe_dget (hu_of hr) (pv 0) (pv 1) (fun _ _ => rfl)))))), ?_⟩
    refine ⟨_, rfl, v, x, rfl, fr.at_.rd, rfl, _, rfl, ?_⟩
    cases x with
    | rcd ks l =>
      have rep := fr.at_
      cases rep with
      | @rcd d kvs _ _ h k r =>
      refine iteF ⟨_, rfl, _, rfl, d, _, rfl, .inl ⟨kvs, .inr n, .inl h, rfl, rfl⟩, _, rfl, ?_⟩
      rcases r.val n k with ⟨u, y, hu, hy, ru⟩ | ⟨hu, hy⟩
      · have em : mField (.rcd ks l) n = .ok y := by simp [mField, hy]
        rw [AnsF, em] at q
        rw [hu]
        refine iteF ⟨_, rfl, _, rfl, d, u, rfl, .inl ⟨kvs, .inr n, .inl h, rfl, hu.symm⟩, ?_⟩
        exact q u H (Same.refl H) (fr.rcd_val h hu ru)
      · have em : mField (.rcd ks l) n = .error ("no field " ++ n) := by simp [mField, hy]
        rw [AnsF, em] at q
        rw [hu]
        refine iteT ⟨_, rfl, _, _, rfl, rfl, ?_, ?_⟩
        · exact le_line (by show 9 + n.length ≤ _; omega)
        · exact ⟨_, rfl, fun d hd => q d _ (same_new hd _) upd_same⟩
    | _ => exact iteD (by rfl) ⟨_, rfl, fun d hd => q d _ (same_new hd _) upd_same⟩
abbrev kk (x y : Val) (a b : Str) : Bool := decide ([kindN x, kindN y] = [a, b])
def isRT : Val → Val → Bool
  | .rcd _ _, .txt _ => true
  | _, _ => false
def isLN : Val → Val → Bool
  | .lst _, .num _ => true
  | .txt _, .num _ => true
  | _, _ => false
theorem kk_rt (x y : Val) : kk x y "record" "text" = isRT x y := by
  cases x <;> cases y <;> kernel_rfl
theorem kk_ln (x y : Val) : (kk x y "list" "number" || kk x y "text" "number") = isLN x y := by
  cases x <;> cases y <;> kernel_rfl
/-- kinds == (a, b) -/
theorem kindsT {i : Nat} {σ : L2.St} {t : Addr} {H1 : Hp} {kx ky x1 x2 : Str} {R : Bool → Hp → Prop} (hσ : σ[i]? = some (some (.ref t))) (hs : H1 t = some (.tup [.str kx, .str ky])) (hk : okK [kx, ky] = true) (ha : okK [x1, x2] = true) (h : ∀ H2, Same H1 H2 → R (decide ([kx, ky] = [x1, x2])) H2) :
    tTest (tOp (rRow K true false) (tVar i) (tTup (tCons (tC (.str x1)) (tCons (tC (.str x2)) tNil)))) σ H1 R :=
  ⟨_, hσ, by show 2 ≤ sizeLine; decide, fun q hq => ⟨t, q, [kx, ky], [x1, x2], rfl, rfl, ⟨SqT.of (same_new hq _ _ _ hs), SqT.of upd_same⟩, hk, ha, _, rfl, h _ (same_new hq _)⟩⟩
def spHas (C : Addr) : Sp := fun vs H Q E => ∃ v x p y, vs = [v, p] ∧ Rep (At H) v x ∧ Rep (At H) p y ∧ sizeV x ≤ 9000000 ∧ okV x = true ∧ AnsI C H (place x y) (fun o => ∀ H', Same H H' → Q (.bl o.isSome) H') E
theorem ok_has_place (T : Txt P w K mg a) : FnOk P w K mg base (L2.CX P w) 2 a.has_place a.has_place_d ["value", "place"] (spHas a.flt) := by
  have G_kind_of_value := ok_kind_of_value (base := base) T
  refine T.has_place.F.okX sc_has_place (fun vs H Q E h => ?_) (fun cdv A outer s H vs Q E hr h => ?_)
  · obtain ⟨v, x, p, y, rfl, _⟩ := h
    rfl
  · obtain ⟨v, x, p, y, rfl, rv, rp, hz, ho, q⟩ := h
    refine ⟨_, (pss_cons (ps_set (i := 2) sc_has_place.nd rfl (Or.inl rfl) (pe_tup (pa_cons (pe_cd T.kind_of_value G_kind_of_value (hr.mono (by omega)) pass0 (pa_cons (pv 0) pa_nil)) (pa_cons (pe_cd T.kind_of_value G_kind_of_value (hr.mono (by omega)) pass0 (pa_cons (pv 1) pa_nil)) pa_nil))))
      (pss_cons (ps_if (pt_cmpR (op_eqTT hr.units) (pv 2) (pe_tup (pa_cons pe_str (pa_cons pe_str pa_nil))) (nomark _)) (pss_one (ps_ret (pe_cmp (pc_din (hu_of hr) (pv 1) (pv 0))))) pss_nil)
      (pss_cons (ps_if (PW.pt (pw_or (pt_cmpR (op_eqTT hr.units) (pv 2) (pe_tup (pa_cons pe_str (pa_cons pe_str pa_nil))) (nomark _)) (pw_or1 (pt_cmpR (op_eqTT hr.units) (pv 2) (pe_tup (pa_cons pe_str (pa_cons pe_str pa_nil))) (nomark _))))) (pss_one (ps_ret (pe_chain op_le op_lt pe_int (pv 1) (pe_callB call_lenV rfl T.b_len (by decide +kernel) (pa_cons (pv 0) pa_nil))))) pss_nil)
      (pss_one (ps_raiseFlt rfl T.flt hr (takes_of rfl rfl rfl rfl) (pa_cons pe_str pa_nil)))))), ?_⟩
    refine ⟨_, rfl, v, x, rfl, rv.rd, _, rfl, p, y, rfl, rp.rd, by show 2 ≤ sizeLine; decide, fun t ht => ?_⟩
    have s1 : Same H (upd H t (.tup [.str (kindN x), .str (kindN y)])) := same_new ht _
    have q1 := upd_same (H := H) (a := t) (o := .tup [.str (kindN x), .str (kindN y)])
    refine kindsT rfl q1 (kinds_ok x y) (by kernel_rfl) fun H2 s2 => ?_
    have e2 := s2 _ _ q1
    have sec := s1.trans s2
    have other : ∀ (R : Bool → Hp → Prop) (σ : L2.St), σ[2]? = some (some (.ref t)) → (∀ H3, Same H2 H3 → R (isLN x y) H3) →
        tOr (tTest (tOp (rRow K true false) (tVar 2) (tTup (tCons (tC (.str "list")) (tCons (tC (.str "number")) tNil))))) (tTest (tOp (rRow K true false) (tVar 2) (tTup (tCons (tC (.str "text")) (tCons (tC (.str "number")) tNil))))) σ H2 R := by
      intro R σ hσ h
      rw [← kk_ln] at h
      refine kindsT hσ e2 (kinds_ok x y) (by kernel_rfl) fun H3 s3 => ?_
      cases c : kk x y "list" "number" with
      | true =>
        refine iteD c ?_
        have := h H3 s3
        rw [c] at this
        exact this
      | false =>
        refine iteE c (kindsT hσ (s3 _ _ e2) (kinds_ok x y) (by kernel_rfl) fun H4 s4 => ?_)
        have := h H4 (s3.trans s4)
        rw [c] at this
        exact this
    have e1 := kk_rt x y
    cases c1 : isRT x y with
    | true =>
      rw [c1] at e1
      refine iteD e1 ?_
      cases rv with
      | @rcd d kvs ks l h k r =>
        cases rp with
        | txt z =>
          refine ⟨_, rfl, _, rfl, d, _, rfl, .inl ⟨kvs, .inr z, .inl (sec _ _ h), rfl, rfl⟩, ?_⟩
          have q : ∀ H', Same H H' → Q (.bl (getK ks l z).isSome) H' := q
          have e : (valV kvs (Sum.inr z : Key)).isSome = (getK ks l z).isSome := by
            rcases r.val z k with ⟨u, y, hu, hy, _⟩ | ⟨hu, hy⟩
            · rw [hu, hy]
              rfl
            · rw [hu, hy]
              rfl
          rw [e]
          exact q _ sec
        | _ => cases c1
      | _ => cases c1
    | false =>
      rw [c1] at e1
      refine iteE e1 (other _ _ rfl fun H3 s3 => ?_)
      have sec3 := sec.trans s3
      cases c2 : isLN x y with
      | true =>
        refine iteT ?_
        have rv3 := (rv.same sec3).rd
        have fin : ∀ (i : Int) (o : Option Val), y = .num i → sizedV x = true → lenV x ≤ 9000000 → place x y = .ok o → o.isSome = (decide (0 ≤ i) && decide (i < ((lenV x : Nat) : Int))) → 
            tChain (rI0 fun i j => V.bl (decide (i ≤ j))) (rI0 fun i j => V.bl (decide (i < j))) (tC (V.int 0)) (tVar 1) (tCB rLenV (tCons (tVar 0) tNil)) [some v, some p, some (.ref t)] H3 Q := by
          intro i o ey hs hl ep eo
          subst ey
          cases rp
          rw [ep] at q
          have q : ∀ H', Same H H' → Q (.bl o.isSome) H' := q
          refine ⟨_, rfl, _, _, rfl, rfl, _, rfl, ?_⟩
          by_cases c : (0 : Int) ≤ i
          · refine iteD (decide_eq_true c) ⟨_, rfl, v, x, rfl, rv3, hs, by omega, _, _, rfl, rfl, ?_⟩
            have := q H3 sec3
            rw [eo, decide_eq_true c, Bool.true_and] at this
            exact this
          · refine iteE (decide_eq_false c) ?_
            have := q H3 sec3
            rw [eo, decide_eq_false c, Bool.false_and] at this
            exact this
        cases x with
        | lst l =>
          have := sizeL_len l
          simp only [sizeV] at hz
          cases y with
          | num i =>
            refine fin i _ rfl rfl (by show l.length ≤ _; omega) rfl ?_
            by_cases c : (0 : Int) ≤ i ∧ i < (l.length : Int)
            · rw [if_pos c]
              have : i.toNat < l.length := by omega
              rw [List.getElem?_eq_getElem this]
              show true = (decide (0 ≤ i) && decide (i < (l.length : Int)))
              rw [decide_eq_true c.1, decide_eq_true c.2]
              rfl
            · rw [if_neg c]
              show false = (decide (0 ≤ i) && decide (i < (l.length : Int)))
              by_cases c0 : 0 ≤ i
              · rw [decide_eq_false (p := i < (l.length : Int)) (by omega), Bool.and_false]
              · rw [decide_eq_false c0, Bool.false_and]
          | _ => cases c2
        | txt z =>
          simp only [sizeV] at hz
          cases y with
          | num i =>
            refine fin i _ rfl rfl (by show z.length ≤ _; omega) rfl ?_
            have ezl : z.cps.toList.length = z.length := by simp [Str.length]
            by_cases c : (0 : Int) ≤ i ∧ i < (z.length : Int)
            · rw [if_pos c]
              have : i.toNat < z.cps.toList.length := by omega
              rw [List.getElem?_eq_getElem this]
              show true = (decide (0 ≤ i) && decide (i < (z.length : Int)))
              rw [decide_eq_true c.1, decide_eq_true c.2]
              rfl
            · rw [if_neg c]
              show false = (decide (0 ≤ i) && decide (i < (z.length : Int)))
              by_cases c0 : 0 ≤ i
              · rw [decide_eq_false (p := i < (z.length : Int)) (by omega), Bool.and_false]
              · rw [decide_eq_false c0, Bool.false_and]
          | _ => cases c2
        | _ => cases c2
      | false =>
        refine iteF ⟨_, rfl, fun d hd => ?_⟩
        have ep : place x y = .error "not a place" := by
          cases x <;> cases y <;> first | rfl | (simp [isRT] at c1; done) | (simp [isLN] at c2; done)
        rw [ep] at q
        exact q d _ (same_snoc sec3 hd _) upd_same
def spAt (C : Addr) : Sp := fun vs H Q E => ∃ H0 v x p y, vs = [v, p] ∧ Fresh H0 H v x ∧ Rep (At H) p y ∧ sizeV x ≤ 9000000 ∧ okV x = true ∧ AnsF C H0 H (mAt x y) Q E
theorem ok_at_place (T : Txt P w K mg a) : FnOk P w K mg base (L2.CX P w) 3 a.at_place a.at_place_d ["value", "place"] (spAt a.flt) := by
  have G_has_place := ok_has_place (base := base) T
  refine T.at_place.F.okX sc_at_place (fun vs H Q E h => ?_) (fun cdv A outer s H vs Q E hr h => ?_)
  · obtain ⟨H0, v, x, p, y, rfl, _⟩ := h
    rfl
  · obtain ⟨H0, v, x, p, y, rfl, fr, rp, hz, ho, q⟩ := h
    cases ep : place x y with
    | error m =>
      have em : mAt x y = .error m := by simp [mAt, ep]
      rw [em] at q
      refine ⟨_, (pss_cons (ps_if (pt_not (pt_val (pe_cd T.has_place G_has_place (hr.mono (by omega)) (passes_call (takes_of rfl rfl rfl rfl) (fun _ _ _ _ z => z)) (pa_cons (pv 0) (pa_cons (pv 1) pa_nil))))) (pss_one (ps_raiseFlt rfl T.flt hr (takes_of rfl rfl rfl rfl) (pa_cons pe_str pa_nil))) pss_nil)
      (pss_one (ps_ret (pe_dget (hu_of hr) (pv 0) (pv 1) (fun _ _ => rfl))))), ?_⟩
      refine ⟨_, rfl, _, rfl, v, x, p, y, rfl, fr.at_, rp, hz, ho, ?_⟩
      rw [ep]
      exact q
    | ok o =>
      cases o with
      | none =>
        have em : mAt x y = .error "nothing there" := by simp [mAt, ep]
        rw [em] at q
        refine ⟨_, (pss_cons (ps_if (pt_not (pt_val (pe_cd T.has_place G_has_place (hr.mono (by omega)) (passes_call (takes_of rfl rfl rfl rfl) (fun _ _ _ _ z => z)) (pa_cons (pv 0) (pa_cons (pv 1) pa_nil))))) (pss_one (ps_raiseFlt rfl T.flt hr (takes_of rfl rfl rfl rfl) (pa_cons pe_str pa_nil))) pss_nil)
      (pss_one (ps_ret (pe_dget (hu_of hr) (pv 0) (pv 1) (fun _ _ => rfl))))), ?_⟩
        refine ⟨_, rfl, _, rfl, v, x, p, y, rfl, fr.at_, rp, hz, ho, ?_⟩
        rw [ep]
        intro H1 s1
        exact ⟨_, rfl, iteT ⟨_, rfl, fun d hd => q d _ (same_snoc s1 hd _) upd_same⟩⟩
      | some z =>
        have em : mAt x y = .ok z := by simp [mAt, ep]
        rw [em] at q
        have q : ∀ r H', Same H H' → Fresh H0 H' r z → Q r H' := q
        cases x with
        | rcd ks l =>
          cases y with
          | txt k =>
            have rv := fr.at_
            cases rp
            cases rv with
            | @rcd d kvs _ _ h kk r =>
            refine ⟨_, (pss_cons (ps_if (pt_not (pt_val (pe_cd T.has_place G_has_place (hr.mono (by omega)) (passes_call (takes_of rfl rfl rfl rfl) (fun _ _ _ _ z => z)) (pa_cons (pv 0) (pa_cons (pv 1) pa_nil))))) (pss_one (ps_raiseFlt rfl T.flt hr (takes_of rfl rfl rfl rfl) (pa_cons pe_str pa_nil))) pss_nil)
      (pss_one (ps_ret (pe_dget (hu_of hr) (pv 0) (pv 1) (fun _ _ => rfl))))), ?_⟩
            refine ⟨_, rfl, _, rfl, _, _, _, _, rfl, fr.at_, .txt k, hz, ho, ?_⟩
            rw [ep]
            intro H1 s1
            refine ⟨_, rfl, iteF ?_⟩
            have eg : getK ks l k = some z := by
              simp only [place, Except.ok.injEq] at ep
              exact ep
            rcases r.val k kk with ⟨u, y, hu, hy, ru⟩ | ⟨hu, hy⟩
            · rw [eg] at hy
              cases hy
              refine ⟨_, rfl, _, rfl, d, u, rfl, .inl ⟨kvs, .inr k, .inl (s1 _ _ h), rfl, hu.symm⟩, ?_⟩
              exact q u H1 s1 ((fr.rcd_val h hu ru).same s1)
            · rw [eg] at hy
              cases hy
          | _ => cases ep
        | lst l =>
          cases y with
          | num i =>
            have rv := fr.at_
            cases rp
            cases rv with
            | @lst d xs _ h r =>
            refine ⟨_, (pss_cons (ps_if (pt_not (pt_val (pe_cd T.has_place G_has_place (hr.mono (by omega)) (passes_call (takes_of rfl rfl rfl rfl) (fun _ _ _ _ z => z)) (pa_cons (pv 0) (pa_cons (pv 1) pa_nil))))) (pss_one (ps_raiseFlt rfl T.flt hr (takes_of rfl rfl rfl rfl) (pa_cons pe_str pa_nil))) pss_nil)
      (pss_one (ps_ret (pe_ix ix_list (pv 0) (pv 1) (fun _ _ => rfl))))), ?_⟩
            refine ⟨_, rfl, _, rfl, _, _, _, _, rfl, fr.at_, .num i, hz, ho, ?_⟩
            rw [ep]
            intro H1 s1
            refine ⟨_, rfl, iteF ?_⟩
            by_cases c : 0 ≤ i ∧ i < (l.length : Int)
            · have eg : l[i.toNat]? = some z := by
                simp only [place, if_pos c, Except.ok.injEq] at ep
                exact ep
              obtain ⟨u, hu, ru⟩ := r.get' eg
              refine ⟨_, rfl, _, rfl, d, xs, i, u, rfl, rfl, SqL.of (s1 _ _ h), ?_, ?_⟩
              · rw [show i = ((i.toNat : Nat) : Int) by omega]
                exact atI_nat hu
              · obtain ⟨y, hy, fy⟩ := (fr.lst_get h).get hu
                rw [eg] at hy
                cases hy
                exact q u H1 s1 (fy.same s1)
            · simp only [place, if_neg c, Except.ok.injEq] at ep
              cases ep
          | _ => cases ep
        | txt t =>
          cases y with
          | num i =>
            have rv := fr.at_
            cases rp
            cases rv
            refine ⟨_, (pss_cons (ps_if (pt_not (pt_val (pe_cd T.has_place G_has_place (hr.mono (by omega)) (passes_call (takes_of rfl rfl rfl rfl) (fun _ _ _ _ z => z)) (pa_cons (pv 0) (pa_cons (pv 1) pa_nil))))) (pss_one (ps_raiseFlt rfl T.flt hr (takes_of rfl rfl rfl rfl) (pa_cons pe_str pa_nil))) pss_nil)
      (pss_one (ps_ret (pe_ix ix_str (pv 0) (pv 1) (fun _ _ => rfl))))), ?_⟩
            refine ⟨_, rfl, _, rfl, _, _, _, _, rfl, fr.at_, .num i, hz, ho, ?_⟩
            rw [ep]
            intro H1 s1
            refine ⟨_, rfl, iteF ?_⟩
            by_cases c : 0 ≤ i ∧ i < (t.length : Int)
            · have eg : (t.cps.toList[i.toNat]?).map (fun c => Val.txt ⟨#[c]⟩) = some z := by
                simp only [place, if_pos c, Except.ok.injEq] at ep
                exact ep
              cases e : t.cps.toList[i.toNat]? with
              | none =>
                rw [e] at eg
                cases eg
              | some ch =>
                rw [e] at eg
                cases eg
                simp only [sizeV] at hz
                refine ⟨_, rfl, _, rfl, t, i, ch, rfl, rfl, le_line (by omega), ?_, ?_⟩
                · rw [show i = ((i.toNat : Nat) : Int) by omega]
                  exact atI_nat e
                · exact q _ H1 s1 (Fresh.txt _)
            · simp only [place, if_neg c, Except.ok.injEq] at ep
              cases ep
          | _ => cases ep
        | _ => cases y <;> cases ep
end
end K19
namespace K19
open PySem PySem.Spec PyProof.Rows L2
theorem leS_iff {a b : Str} : leS a b = true ↔ ¬ b.cps.toList < a.cps.toList := by
  unfold leS
  rw [decide_eq_true_eq]
  exact Iff.rfl
theorem str_ext {a b : Str} (h : a.cps.toList = b.cps.toList) : a = b := by
  cases a with
  | mk a =>
  cases b with
  | mk b =>
    have e : a = b := Array.toList_inj.mp h
    rw [e]
theorem leS_antisymm {a b : Str} (h : leS a b = true) (g : leS b a = true) : a = b := by
  refine str_ext (List.le_antisymm ?_ ?_)
  · exact leS_iff.mp h
  · exact leS_iff.mp g
theorem leS_trans (a b c : Str) (h : leS a b = true) (g : leS b c = true) : leS a c = true := by
  unfold leS at *
  rw [decide_eq_true_eq] at *
  exact List.le_trans h g
theorem leS_total (a b : Str) : (leS a b || leS b a) = true := by
  unfold leS; rw [Bool.or_eq_true, decide_eq_true_eq, decide_eq_true_eq]
  exact List.le_total _ _
theorem rising_pair : ∀ (l : List Str) (p : Str), risingS p l = true → (p :: l).Pairwise (fun a b => leS a b = true)
  | [], p, _ => by simp
  | x :: r, p, h => by
    have h : (!ltCps x.cps.toList p.cps.toList && risingS x r) = true := h
    rw [Bool.and_eq_true] at h
    have q := rising_pair r x h.2
    have e : leS p x = true := by
      have := h.1
      rw [ltCps_eq] at this
      rw [leS_iff]
      simpa using this
    refine List.pairwise_cons.mpr ⟨fun y hy => ?_, q⟩
    rcases List.mem_cons.mp hy with rfl | later
    · exact e
    · exact leS_trans _ _ _ e ((List.pairwise_cons.mp q).1 y later)
theorem sortedS_pair {l : List Str} (h : sortedS l = true) : l.Pairwise (fun a b => leS a b = true) := by
  cases l with
  | nil => simp
  | cons x r => exact rising_pair r x h
/-- the one order -/
theorem sortS_uniq {ys ks : List Str} (p : ys.Perm ks) (h : sortedS ys = true) : ys = sortS ks := by
  refine List.Perm.eq_of_pairwise (le := fun a b => leS a b = true) (fun a b _ _ h g => leS_antisymm h g) (sortedS_pair h) ?_ (p.trans (List.mergeSort_perm ks leS).symm)
  exact List.pairwise_mergeSort leS_trans leS_total ks
theorem sortS_perm (ks : List Str) : (sortS ks).Perm ks := List.mergeSort_perm ks leS
theorem sortS_length (ks : List Str) : (sortS ks).length = ks.length := (sortS_perm ks).length_eq
theorem lens_perm {ks js : List Str} (p : ks.Perm js) : lens ks = lens js := by
  induction p with
  | nil => rfl
  | cons x _ ih => simp only [lens, ih]
  | swap x y l => simp only [lens]; omega
  | trans _ _ h g => exact h.trans g
end K19
namespace K19
open PySem PySem.Spec PyProof.Rows L2
theorem sc_length_of : FnScope nm_length_of ["arguments"] (defScope s_length_of) := ⟨rfl, rfl, rfl, by decide +kernel, rfl, by decide +kernel, by decide +kernel⟩
theorem sc_text_from : FnScope nm_text_from ["arguments"] (defScope s_text_from) := ⟨rfl, rfl, rfl, by decide +kernel, rfl, by decide +kernel, by decide +kernel⟩
theorem sc_get_from : FnScope nm_get_from ["arguments"] (defScope s_get_from) := ⟨rfl, rfl, rfl, by decide +kernel, rfl, by decide +kernel, by decide +kernel⟩
theorem sc_keys_of : FnScope nm_keys_of ["arguments"] (defScope s_keys_of) := ⟨rfl, rfl, rfl, by decide +kernel, rfl, by decide +kernel, by decide +kernel⟩
theorem sc_quotient : FnScope nm_quotient ["first", "second"] (defScope s_quotient) := ⟨rfl, rfl, rfl, by decide +kernel, rfl, by decide +kernel, by decide +kernel⟩
theorem sc_least_of : FnScope nm_least_of ["arguments"] (defScope s_least_of) := ⟨rfl, rfl, rfl, by decide +kernel, rfl, by decide +kernel, by decide +kernel⟩
theorem sc_greatest_of : FnScope nm_greatest_of ["arguments"] (defScope s_greatest_of) := ⟨rfl, rfl, rfl, by decide +kernel, rfl, by decide +kernel, by decide +kernel⟩
theorem sc_call_function : FnScope nm_call_function ["name", "arguments"] (defScope s_call_function) := ⟨rfl, rfl, rfl, by decide +kernel, rfl, by decide +kernel, by decide +kernel⟩

section
variable {P : Program} {w : World} {K : PySem.W.Frag} {mg : Str → Option Value} {base : Heap} {a : Ads}
def argsOk (l : List Val) : Prop := ∀ x ∈ l, okV x = true ∧ depthV x ≤ 20 ∧ sizeV x ≤ 3000
def spFn (C : Addr) (f : Fn) : Sp := fun vs H Q E => ∃ H0 b xs l, vs = [.ref b] ∧ H b = some (.lst xs) ∧ Gr H0 H ∧ FreshL H0 H xs l ∧ argsOk l ∧ l.length = f.arity ∧ AnsF C H0 H (mCall f l) Q E
theorem one_of {α : Type} {l : List α} (h : l.length = 1) : ∃ x, l = [x] := by
  match l, h with
  | [x], _ => exact ⟨x, rfl⟩
theorem two_of {α : Type} {l : List α} (h : l.length = 2) : ∃ x y, l = [x, y] := by
  match l, h with
  | [x, y], _ => exact ⟨x, y, rfl⟩
theorem three_of {α : Type} {l : List α} (h : l.length = 3) : ∃ x y z, l = [x, y, z] := by
  match l, h with | [x, y, z], _ => exact ⟨x, y, z, rfl⟩
theorem ok_length_of (T : Txt P w K mg a) : FnOk P w K mg base (L2.CX P w) 2 a.length_of a.length_of_d ["arguments"] (spFn a.flt .length) := by
  have G_kind_of_value := ok_kind_of_value (base := base) T
  refine T.length_of.F.okX sc_length_of (fun vs H Q E h => ?_) (fun cdv A outer s H vs Q E hr h => ?_)
  · obtain ⟨H0, b, xs, l, rfl, _⟩ := h
    rfl
  · obtain ⟨H0, b, xs, l, rfl, hb, gr, fr, ok, hl, q⟩ := h
    obtain ⟨x, rfl⟩ := one_of hl
    obtain ⟨v, rfl⟩ := one_of (fr.at_.length)
    obtain ⟨o1, o2, o3⟩ := ok x (by simp)
    have o3 : sizeV x ≤ 9000000 := Nat.le_trans o3 (by decide)
    cases fr.at_ with
    | cons rv _ =>
    refine ⟨_, (pss_cons (ps_if (pt_cmpR op_notIn_seq (pe_cd T.kind_of_value G_kind_of_value (hr.mono (by omega)) pass0 (pa_cons (pe_ix ix_list (pv 0) pe_int (fun _ _ => rfl)) pa_nil)) (pe_tup (pa_cons pe_str (pa_cons pe_str (pa_cons pe_str pa_nil)))) (by rfl)) (pss_one (ps_raiseFlt rfl T.flt hr (takes_of rfl rfl rfl rfl) (pa_cons pe_str pa_nil))) pss_nil)
      (pss_one (ps_ret (pe_callB call_lenV rfl T.b_len (by decide +kernel) (pa_cons (pe_ix ix_list (pv 0) pe_int (fun _ _ => rfl)) pa_nil))))), ?_⟩
    refine ⟨_, rfl, b, _, 0, v, rfl, rfl, SqL.of hb, rfl, v, x, rfl, rv.rd, by show 3 ≤ sizeLine; decide, fun t ht => ⟨t, _, rfl, .inr (SqT.of upd_same), rfl, rfl, _, rfl, ?_⟩⟩
    have st : Same H (upd H t (.tup [.str "text", .str "list", .str "record"])) := same_new ht _
    have fin : ∀ n : Nat, sizedV x = true → lenV x = n → n ≤ 9000000 → mCall .length [x] = .ok (.num n) → tRet (tCB rLenV (tCons (tOp (rIxL K) (tVar 0) (tC (V.int 0))) tNil)) { nx := fun x H' => Q V.non H', rt := Q } [some (V.ref b)] (upd H t (.tup [.str "text", .str "list", .str "record"])) := by
      intro n h1 h2 h3 e
      rw [e] at q
      subst h2
      exact ⟨_, rfl, b, _, 0, v, rfl, rfl, SqL.of (st _ _ hb), rfl, v, x, rfl, (rv.same st).rd, h1, by omega, q _ _ st (Fresh.num _)⟩
    cases x with
    | txt s =>
      simp only [sizeV] at o3
      exact iteE (by rfl) (fin s.length rfl rfl (by omega) rfl)
    | lst l =>
      simp only [sizeV] at o3
      have := sizeL_len l
      exact iteE (by rfl) (fin l.length rfl rfl (by omega) rfl)
    | rcd ks l =>
      have := (ok_rcd o1).2.2.1
      exact iteE (by rfl) (fin ks.length rfl rfl (by omega) rfl)
    | _ => exact iteD (by rfl) ⟨_, rfl, fun d hd => q d _ (same_snoc st hd _) upd_same⟩
theorem ok_text_from (T : Txt P w K mg a) : FnOk P w K mg base (L2.CX P w) 3 a.text_from a.text_from_d ["arguments"] (spFn a.flt .text) := by
  have G_text_of := ok_text_of (base := base) T
  refine T.text_from.F.okX sc_text_from (fun vs H Q E h => ?_) (fun cdv A outer s H vs Q E hr h => ?_)
  · obtain ⟨H0, b, xs, l, rfl, _⟩ := h
    rfl
  · obtain ⟨H0, b, xs, l, rfl, hb, gr, fr, ok, hl, q⟩ := h
    obtain ⟨x, rfl⟩ := one_of hl
    obtain ⟨v, rfl⟩ := one_of (fr.at_.length)
    obtain ⟨o1, o2, o3⟩ := ok x (by simp)
    have o3 : sizeV x ≤ 9000000 := Nat.le_trans o3 (by decide)
    cases fr.at_ with
    | cons rv _ =>
    refine ⟨_, (pss_cons (ps_set (i := 1) sc_text_from.nd rfl (Or.inl rfl) (pe_cd T.text_of G_text_of (hr.mono (by omega)) pass0 (pa_cons (pe_ix ix_list (pv 0) pe_int (fun _ _ => rfl)) pa_nil)))
      (pss_cons (ps_if (pt_cmpR op_isN (pv 1) pe_non (nomark _)) (pss_one (ps_raiseFlt rfl T.flt hr (takes_of rfl rfl rfl rfl) (pa_cons pe_str pa_nil))) pss_nil)
      (pss_one (ps_ret (pv 1))))), ?_⟩
    refine ⟨_, rfl, b, _, 0, v, rfl, rfl, SqL.of hb, rfl, v, x, rfl, rv.rd, o1, ?_⟩
    cases e : textOf x with
    | none =>
      have em : mCall .text [x] = .error "not a text" := by simp [mCall, e]
      rw [em] at q
      exact ⟨_, rfl, rfl, _, rfl, iteT ⟨_, rfl, fun d hd => q d _ (same_new hd _) upd_same⟩⟩
    | some z =>
      have em : mCall .text [x] = .ok (.txt z) := by simp [mCall, e]
      rw [em] at q
      exact ⟨_, rfl, rfl, _, rfl, iteF ⟨_, rfl, q _ _ (Same.refl H) (Fresh.txt z)⟩⟩
theorem atI_0 {α : Type} {x : α} {r : List α} : atI (x :: r) 0 = some x := atI_nat (j := 0) rfl
theorem ok_get_from (T : Txt P w K mg a) : FnOk P w K mg base (L2.CX P w) 3 a.get_from a.get_from_d ["arguments"] (spFn a.flt .get) := by
  have G_has_place := ok_has_place (base := base) T
  refine T.get_from.F.okX sc_get_from (fun vs H Q E h => ?_) (fun cdv A outer s H vs Q E hr h => ?_)
  · obtain ⟨H0, b, xs, l, rfl, _⟩ := h
    rfl
  · obtain ⟨H0, b, xs, l, rfl, hb, gr, fr, ok, hl, q⟩ := h
    obtain ⟨x, p, d, rfl⟩ := three_of hl
    obtain ⟨v, u, o, rfl⟩ := three_of (fr.at_.length)
    obtain ⟨o1, o2, o3⟩ := ok x (by simp)
    have o3 : sizeV x ≤ 9000000 := Nat.le_trans o3 (by decide)
    obtain ⟨y0, e0, f0⟩ := fr.get (i := 0) (v := v) rfl
    cases e0
    obtain ⟨y1, e1, f1⟩ := fr.get (i := 1) (v := u) rfl
    cases e1
    obtain ⟨y2, e2, f2⟩ := fr.get (i := 2) (v := o) rfl
    cases e2
    by_cases hx : x = .nul
    · subst hx
      have rv := f0.at_
      cases rv
      refine ⟨_, (pss_cons (ps_asg (pv 0) (pg_unl rfl (pgs_cons (pg_name (i := 1) sc_get_from.nd rfl (Or.inl rfl)) (pgs_cons (pg_name (i := 2) sc_get_from.nd rfl (Or.inl rfl)) (pgs_cons (pg_name (i := 3) sc_get_from.nd rfl (Or.inl rfl)) pgs_nil)))))
      (pss_cons (ps_if (PW.pt (pw_or (pt_cmpR op_isN (pv 1) pe_non (nomark _)) (pw_or1 (pt_not (pt_val (pe_cd T.has_place G_has_place (hr.mono (by omega)) (passes_call (takes_of rfl rfl rfl rfl) (fun _ _ _ _ z => z)) (pa_cons (pv 1) (pa_cons (pv 2) pa_nil)))))))) (pss_one (ps_ret (pv 3))) pss_nil)
      (pss_one (ps_ret (pe_dget (hu_of hr) (pv 1) (pv 2) (fun _ _ => rfl)))))), ?_⟩
      refine ⟨_, rfl, b, _, rfl, SqL.of hb, rfl, _, _, rfl, _, _, rfl, _, _, rfl, rfl, _, rfl, rfl, _, rfl, iteT (iteT ⟨_, rfl, ?_⟩)⟩
      exact q _ _ (Same.refl H) f2
    · have hv : v ≠ .non := fun e => by
        subst e
        cases f0.at_
        exact hx rfl
      have em : mCall .get [x, p, d] = (match place x p with | .error m => .error m | .ok none => .ok d | .ok (some y) => .ok y : Res) := by
        cases x <;> first | rfl | exact absurd rfl hx
      rw [em] at q
      cases ep : place x p with
      | error m =>
        rw [ep] at q
        refine ⟨_, (pss_cons (ps_asg (pv 0) (pg_unl rfl (pgs_cons (pg_name (i := 1) sc_get_from.nd rfl (Or.inl rfl)) (pgs_cons (pg_name (i := 2) sc_get_from.nd rfl (Or.inl rfl)) (pgs_cons (pg_name (i := 3) sc_get_from.nd rfl (Or.inl rfl)) pgs_nil)))))
      (pss_cons (ps_if (PW.pt (pw_or (pt_cmpR op_isN (pv 1) pe_non (nomark _)) (pw_or1 (pt_not (pt_val (pe_cd T.has_place G_has_place (hr.mono (by omega)) (passes_call (takes_of rfl rfl rfl rfl) (fun _ _ _ _ z => z)) (pa_cons (pv 1) (pa_cons (pv 2) pa_nil)))))))) (pss_one (ps_ret (pv 3))) pss_nil)
      (pss_one (ps_ret (pe_dget (hu_of hr) (pv 1) (pv 2) (fun _ _ => rfl)))))), ?_⟩
        refine ⟨_, rfl, b, _, rfl, SqL.of hb, rfl, _, _, rfl, _, _, rfl, _, _, rfl, rfl, _, rfl, rfl, _, rfl, iteE (decide_eq_false hv) ⟨_, rfl, _, rfl, v, x, u, p, rfl, f0.at_, f1.at_, o3, o1, ?_⟩⟩
        rw [ep]
        exact q
      | ok o' =>
        cases o' with
        | none =>
          rw [ep] at q
          refine ⟨_, (pss_cons (ps_asg (pv 0) (pg_unl rfl (pgs_cons (pg_name (i := 1) sc_get_from.nd rfl (Or.inl rfl)) (pgs_cons (pg_name (i := 2) sc_get_from.nd rfl (Or.inl rfl)) (pgs_cons (pg_name (i := 3) sc_get_from.nd rfl (Or.inl rfl)) pgs_nil)))))
      (pss_cons (ps_if (PW.pt (pw_or (pt_cmpR op_isN (pv 1) pe_non (nomark _)) (pw_or1 (pt_not (pt_val (pe_cd T.has_place G_has_place (hr.mono (by omega)) (passes_call (takes_of rfl rfl rfl rfl) (fun _ _ _ _ z => z)) (pa_cons (pv 1) (pa_cons (pv 2) pa_nil)))))))) (pss_one (ps_ret (pv 3))) pss_nil)
      (pss_one (ps_ret (pe_dget (hu_of hr) (pv 1) (pv 2) (fun _ _ => rfl)))))), ?_⟩
          refine ⟨_, rfl, b, _, rfl, SqL.of hb, rfl, _, _, rfl, _, _, rfl, _, _, rfl, rfl, _, rfl, rfl, _, rfl, iteE (decide_eq_false hv) ⟨_, rfl, _, rfl, v, x, u, p, rfl, f0.at_, f1.at_, o3, o1, ?_⟩⟩
          rw [ep]
          intro H1 s1
          exact ⟨_, rfl, iteT ⟨_, rfl, q _ _ s1 (f2.same s1)⟩⟩
        | some z =>
          rw [ep] at q
          have q : ∀ r H', Same H H' → Fresh H0 H' r z → Q r H' := q
          cases x with
          | rcd ks l =>
            cases p with
            | txt k =>
              have rv := f0.at_
              cases f1.at_
              cases rv with
              | @rcd d0 kvs _ _ h kk r =>
              refine ⟨_, (pss_cons (ps_asg (pv 0) (pg_unl rfl (pgs_cons (pg_name (i := 1) sc_get_from.nd rfl (Or.inl rfl)) (pgs_cons (pg_name (i := 2) sc_get_from.nd rfl (Or.inl rfl)) (pgs_cons (pg_name (i := 3) sc_get_from.nd rfl (Or.inl rfl)) pgs_nil)))))
      (pss_cons (ps_if (PW.pt (pw_or (pt_cmpR op_isN (pv 1) pe_non (nomark _)) (pw_or1 (pt_not (pt_val (pe_cd T.has_place G_has_place (hr.mono (by omega)) (passes_call (takes_of rfl rfl rfl rfl) (fun _ _ _ _ z => z)) (pa_cons (pv 1) (pa_cons (pv 2) pa_nil)))))))) (pss_one (ps_ret (pv 3))) pss_nil)
      (pss_one (ps_ret (pe_dget (hu_of hr) (pv 1) (pv 2) (fun _ _ => rfl)))))), ?_⟩
              refine ⟨_, rfl, b, _, rfl, SqL.of hb, rfl, _, _, rfl, _, _, rfl, _, _, rfl, rfl, _, rfl, rfl, _, rfl, iteE (decide_eq_false hv) ⟨_, rfl, _, rfl, _, _, _, _, rfl, f0.at_, .txt k, o3, o1, ?_⟩⟩
              rw [ep]
              intro H1 s1
              refine ⟨_, rfl, iteF ?_⟩
              have eg : getK ks l k = some z := by
                simp only [place, Except.ok.injEq] at ep
                exact ep
              rcases r.val k kk with ⟨u, y, hu, hy, ru⟩ | ⟨hu, hy⟩
              · rw [eg] at hy
                cases hy
                refine ⟨_, rfl, _, rfl, d0, u, rfl, .inl ⟨kvs, .inr k, .inl (s1 _ _ h), rfl, hu.symm⟩, ?_⟩
                exact q u H1 s1 ((f0.rcd_val h hu ru).same s1)
              · rw [eg] at hy
                cases hy
            | _ => cases ep
          | lst l =>
            cases p with
            | num i =>
              have rv := f0.at_
              cases f1.at_
              cases rv with
              | @lst d0 xs _ h r =>
              refine ⟨_, (pss_cons (ps_asg (pv 0) (pg_unl rfl (pgs_cons (pg_name (i := 1) sc_get_from.nd rfl (Or.inl rfl)) (pgs_cons (pg_name (i := 2) sc_get_from.nd rfl (Or.inl rfl)) (pgs_cons (pg_name (i := 3) sc_get_from.nd rfl (Or.inl rfl)) pgs_nil)))))
      (pss_cons (ps_if (PW.pt (pw_or (pt_cmpR op_isN (pv 1) pe_non (nomark _)) (pw_or1 (pt_not (pt_val (pe_cd T.has_place G_has_place (hr.mono (by omega)) (passes_call (takes_of rfl rfl rfl rfl) (fun _ _ _ _ z => z)) (pa_cons (pv 1) (pa_cons (pv 2) pa_nil)))))))) (pss_one (ps_ret (pv 3))) pss_nil)
      (pss_one (ps_ret (pe_ix ix_list (pv 1) (pv 2) (fun _ _ => rfl)))))), ?_⟩
              refine ⟨_, rfl, b, _, rfl, SqL.of hb, rfl, _, _, rfl, _, _, rfl, _, _, rfl, rfl, _, rfl, rfl, _, rfl, iteE (decide_eq_false hv) ⟨_, rfl, _, rfl, _, _, _, _, rfl, f0.at_, .num i, o3, o1, ?_⟩⟩
              rw [ep]
              intro H1 s1
              refine ⟨_, rfl, iteF ?_⟩
              by_cases c : 0 ≤ i ∧ i < (l.length : Int)
              · have eg : l[i.toNat]? = some z := by
                  simp only [place, if_pos c, Except.ok.injEq] at ep
                  exact ep
                obtain ⟨u, hu, ru⟩ := r.get' eg
                refine ⟨_, rfl, _, rfl, d0, xs, i, u, rfl, rfl, SqL.of (s1 _ _ h), ?_, ?_⟩
                · rw [show i = ((i.toNat : Nat) : Int) by omega]
                  exact atI_nat hu
                · obtain ⟨y, hy, fy⟩ := (f0.lst_get h).get hu
                  rw [eg] at hy
                  cases hy
                  exact q u H1 s1 (fy.same s1)
              · simp only [place, if_neg c, Except.ok.injEq] at ep
                cases ep
            | _ => cases ep
          | txt t =>
            cases p with
            | num i =>
              have rv := f0.at_
              cases f1.at_
              cases rv
              refine ⟨_, (pss_cons (ps_asg (pv 0) (pg_unl rfl (pgs_cons (pg_name (i := 1) sc_get_from.nd rfl (Or.inl rfl)) (pgs_cons (pg_name (i := 2) sc_get_from.nd rfl (Or.inl rfl)) (pgs_cons (pg_name (i := 3) sc_get_from.nd rfl (Or.inl rfl)) pgs_nil)))))
      (pss_cons (ps_if (PW.pt (pw_or (pt_cmpR op_isN (pv 1) pe_non (nomark _)) (pw_or1 (pt_not (pt_val (pe_cd T.has_place G_has_place (hr.mono (by omega)) (passes_call (takes_of rfl rfl rfl rfl) (fun _ _ _ _ z => z)) (pa_cons (pv 1) (pa_cons (pv 2) pa_nil)))))))) (pss_one (ps_ret (pv 3))) pss_nil)
      (pss_one (ps_ret (pe_ix ix_str (pv 1) (pv 2) (fun _ _ => rfl)))))), ?_⟩
              refine ⟨_, rfl, b, _, rfl, SqL.of hb, rfl, _, _, rfl, _, _, rfl, _, _, rfl, rfl, _, rfl, rfl, _, rfl, iteE (decide_eq_false hv) ⟨_, rfl, _, rfl, _, _, _, _, rfl, f0.at_, .num i, o3, o1, ?_⟩⟩
              rw [ep]
              intro H1 s1
              refine ⟨_, rfl, iteF ?_⟩
              by_cases c : 0 ≤ i ∧ i < (t.length : Int)
              · have eg : (t.cps.toList[i.toNat]?).map (fun c => Val.txt ⟨#[c]⟩) = some z := by
                  simp only [place, if_pos c, Except.ok.injEq] at ep
                  exact ep
                cases e : t.cps.toList[i.toNat]? with
                | none =>
                  rw [e] at eg
                  cases eg
                | some ch =>
                  rw [e] at eg
                  cases eg
                  simp only [sizeV] at o3
                  refine ⟨_, rfl, _, rfl, t, i, ch, rfl, rfl, le_line (by omega), ?_, ?_⟩
                  · rw [show i = ((i.toNat : Nat) : Int) by omega]
                    exact atI_nat e
                  · exact q _ H1 s1 (Fresh.txt _)
              · simp only [place, if_neg c, Except.ok.injEq] at ep
                cases ep
            | _ => cases ep
          | _ => cases p <;> cases ep
end
end K19
namespace K19
open PySem PySem.Spec PyProof.Rows L2
theorem rep_txts {R : Addr → HO → Prop} : ∀ ks : List Str, RepL R (ks.map V.str) (ks.map Val.txt)
  | [] => .nil
  | k :: r => .cons (.txt k) (rep_txts r)
theorem own_txts {H : Hp} : ∀ ks : List Str, OwnL H (ks.map V.str) (ks.map Val.txt) []
  | [] => .nil
  | k :: r => .cons (.txt k) (own_txts r)
theorem okL_txts : ∀ ks : List Str, okL (ks.map Val.txt) = true
  | [] => rfl
  | k :: r => okL_txts r
theorem depthL_txts : ∀ ks : List Str, depthL (ks.map Val.txt) ≤ 1
  | [] => Nat.zero_le _
  | k :: r => by
    have := depthL_txts r
    simp only [List.map_cons, depthL, depthV]
    omega
theorem sizeL_txts : ∀ ks : List Str, sizeL (ks.map Val.txt) = ks.length + lens ks
  | [] => rfl
  | k :: r => by
    have := sizeL_txts r
    simp only [List.map_cons, sizeL, sizeV, List.length_cons, lens]
    omega
section
variable {P : Program} {w : World} {K : PySem.W.Frag} {mg : Str → Option Value} {base : Heap} {a : Ads}
theorem ok_keys_of (T : Txt P w K mg a) : FnOk P w K mg base (L2.CX P w) 27 a.keys_of a.keys_of_d ["arguments"] (spFn a.flt .keys) := by
  have G_need_record := ok_need_record (base := base) T
  have G_bounded := ok_bounded (base := base) T
  refine T.keys_of.F.okX sc_keys_of (fun vs H Q E h => ?_) (fun cdv A outer s H vs Q E hr h => ?_)
  · obtain ⟨H0, b, xs, l, rfl, _⟩ := h
    rfl
  · obtain ⟨H0, b, xs, l, rfl, hb, gr, fr, ok, hl, q⟩ := h
    obtain ⟨x, rfl⟩ := one_of hl
    obtain ⟨v, rfl⟩ := one_of (fr.at_.length)
    obtain ⟨o1, o2, o3⟩ := ok x (by simp)
    cases fr.at_ with
    | cons rv _ =>
    refine ⟨_, (pss_one (ps_ret (pe_cd T.bounded G_bounded (hr.mono (by omega)) (passes_call (takes_of rfl rfl rfl rfl) (fun _ _ _ _ z => z)) (pa_cons (pe_callB (call_sortedD rfl) rfl T.b_sorted (by decide +kernel) (pa_cons (pe_cd T.need_record G_need_record (hr.mono (by omega)) (passes_call (takes_of rfl rfl rfl rfl) (fun _ _ _ _ z => z)) (pa_cons (pe_ix ix_list (pv 0) pe_int (fun _ _ => rfl)) pa_nil)) pa_nil)) pa_nil)))), ?_⟩
    refine ⟨_, rfl, b, _, 0, v, rfl, rfl, SqL.of hb, rfl, v, x, rfl, rv.rd, ?_⟩
    cases x with
    | rcd ks l =>
      cases rv with
      | @rcd d kvs _ _ h k r =>
      have h40 := (ok_rcd o1).2.2.1
      refine (if_pos (by rfl)).mpr ⟨d, kvs, ks, rfl, .inl h, k, by omega, fun ys p py sy hp => ?_⟩
      have e := sortS_uniq py sy
      subst e
      have s1 := same_new hp (.lst ((sortS ks).map V.str))
      have q : AnsF a.flt H0 H (mMade (.lst ((sortS ks).map Val.txt))) Q E := q
      have hd := depthL_txts (sortS ks)
      have hz := sizeL_txts (sortS ks)
      have hs := lens_perm (sortS_perm ks)
      have hn := sortS_length ks
      simp only [sizeV] at o3
      refine ⟨.ref p, .lst ((sortS ks).map Val.txt), rfl, .lst upd_same (rep_txts _), okL_txts _, by simp only [depthV]; omega, by simp only [sizeV]; omega, ?_⟩
      cases e : mMade (.lst ((sortS ks).map Val.txt)) with
      | error m =>
        rw [e] at q
        exact Bad.later q s1
      | ok y =>
        have ey : y = .lst ((sortS ks).map Val.txt) := by
          unfold mMade at e
          split at e
          · cases e
          · split at e
            · cases e
            · split at e
              · cases e
              · exact (Except.ok.inj e).symm
        subst ey
        rw [e] at q
        intro H2 s2
        refine q _ _ (s1.trans s2) (Fresh.same ⟨[p], .lst upd_same (own_txts _), by simp, fun a ha => ?_⟩ s2)
        rw [List.mem_singleton.mp ha]
        exact gr _ hp
    | _ =>
      refine (if_neg (by intro e; injection e with e; cases e)).mpr ?_
      exact q
def spQuo (C : Addr) : Sp := fun vs H Q E => ∃ i j : Int, vs = [.int i, .int j] ∧ j.natAbs ≤ 1000000000000000000000000000000 ∧ if j = 0 then Bad C H E "division by 0" else Q (.int (mQuo i j)) H
theorem abs_if (i : Int) : (if i < 0 then -i else i) = (i.natAbs : Int) := by
  split <;> omega
theorem small_pow {i : Int} (h : i.natAbs ≤ 1000000000000000000000000000000) : i.natAbs < 2 ^ 100 := Nat.lt_of_le_of_lt h (by decide)
theorem ok_quotient (T : Txt P w K mg a) : FnOk P w K mg base (L2.CX P w) 2 a.quotient a.quotient_d ["first", "second"] (spQuo a.flt) := by
  refine T.quotient.F.okX sc_quotient (fun vs H Q E h => ?_) (fun cdv A outer s H vs Q E hr h => ?_)
  · obtain ⟨i, j, rfl, _⟩ := h
    rfl
  · obtain ⟨i, j, rfl, hj, q⟩ := h
    refine ⟨_, (pss_cons (ps_if (pt_cmpR op_eq (pv 1) pe_int (nomark _)) (pss_one (ps_raiseFlt rfl T.flt hr (takes_of rfl rfl rfl rfl) (pa_cons pe_str pa_nil))) pss_nil)
      (pss_cons (ps_set (i := 2) sc_quotient.nd rfl (Or.inl rfl) (pe_op op_fdivW (pe_callB call_abs rfl T.b_abs (by decide +kernel) (pa_cons (pv 0) pa_nil)) (pe_callB call_abs rfl T.b_abs (by decide +kernel) (pa_cons (pv 1) pa_nil))))
      (pss_cons (ps_if (pt_cmpR op_ne (pe_cmpR op_lt (pv 0) pe_int (nomark _)) (pe_cmpR op_lt (pv 1) pe_int (nomark _)) (nomark _)) (pss_one (ps_ret (pe_un un_neg (pv 2)))) pss_nil)
      (pss_one (ps_ret (pv 2)))))), ?_⟩
    refine ⟨_, rfl, rfl, _, rfl, ?_⟩
    by_cases c : j = 0
    · rw [if_pos c] at q
      refine iteD (by rw [c]; rfl) ⟨_, rfl, fun d hd => q d _ (same_new hd _) upd_same⟩
    · rw [if_neg c] at q
      refine iteE (decide_eq_false fun e => c (by injection e)) ?_
      refine ⟨_, rfl, i, rfl, _, rfl, j, rfl, _, _, rfl, rfl, ?_, ?_⟩
      · rw [abs_if]
        refine wide_div (b := 100) (by omega) ?_ (by decide) (by decide)
        have e : (if j < 0 then -j else j).natAbs = j.natAbs := by split <;> omega
        rw [e]
        exact small_pow hj
      · rw [abs_if, abs_if]
        have e1 : ((i.natAbs : Int) / (j.natAbs : Int)) = ((i.natAbs / j.natAbs : Nat) : Int) := rfl
        refine ⟨_, rfl, _, _, rfl, rfl, _, rfl, _, _, rfl, rfl, rfl, _, rfl, ?_⟩
        unfold mQuo at q
        by_cases c2 : decide (i < 0) = decide (j < 0)
        · rw [if_pos c2] at q
          refine iteE (by show (!decide (V.bl (decide (i < 0)) = V.bl (decide (j < 0)))) = false; rw [c2, decide_eq_true rfl]; rfl) ⟨_, rfl, q⟩
        · rw [if_neg c2] at q
          refine iteD (by rw [decide_eq_false (fun e => c2 (by injection e))]; rfl) ⟨_, rfl, _, rfl, q⟩
theorem ok_least_of (T : Txt P w K mg a) : FnOk P w K mg base (L2.CX P w) 3 a.least_of a.least_of_d ["arguments"] (spFn a.flt .min) := by
  have G_need_number := ok_need_number (base := base) T
  refine T.least_of.F.okX sc_least_of (fun vs H Q E h => ?_) (fun cdv A outer s H vs Q E hr h => ?_)
  · obtain ⟨H0, b, xs, l, rfl, _⟩ := h
    rfl
  · obtain ⟨H0, b, xs, l, rfl, hb, gr, fr, ok, hl, q⟩ := h
    obtain ⟨x, y, rfl⟩ := two_of hl
    obtain ⟨v, u, rfl⟩ := two_of (fr.at_.length)
    cases fr.at_ with
    | cons rv r2 =>
    cases r2 with
    | cons ru _ =>
    refine ⟨_, (pss_one (ps_ret (pe_callB (call_min2 rfl) rfl T.b_min (by decide +kernel) (pa_cons (pe_cd T.need_number G_need_number (hr.mono (by omega)) (passes_call (takes_of rfl rfl rfl rfl) (fun _ _ _ _ z => z)) (pa_cons (pe_ix ix_list (pv 0) pe_int (fun _ _ => rfl)) pa_nil)) (pa_cons (pe_cd T.need_number G_need_number (hr.mono (by omega)) (passes_call (takes_of rfl rfl rfl rfl) (fun _ _ _ _ z => z)) (pa_cons (pe_ix ix_list (pv 0) pe_int (fun _ _ => rfl)) pa_nil)) pa_nil))))), ?_⟩
    refine ⟨_, rfl, b, _, 0, v, rfl, rfl, SqL.of hb, rfl, v, x, rfl, rv.rd, ?_⟩
    by_cases c : kindN x = "number"
    · refine (if_pos c).mpr ⟨_, rfl, b, _, 1, u, rfl, rfl, SqL.of hb, rfl, u, y, rfl, ru.rd, ?_⟩
      cases x with
      | num i =>
        by_cases c2 : kindN y = "number"
        · refine (if_pos c2).mpr ?_
          cases y with
          | num j =>
            cases rv
            cases ru
            exact ⟨i, j, rfl, q _ _ (Same.refl H) (Fresh.num _)⟩
          | _ => cases c2
        · refine (if_neg c2).mpr ?_
          cases y <;> first | exact q | exact absurd rfl c2
      | _ => cases c
    · refine (if_neg c).mpr ?_
      cases x <;> first | exact q | exact absurd rfl c
theorem ok_greatest_of (T : Txt P w K mg a) : FnOk P w K mg base (L2.CX P w) 3 a.greatest_of a.greatest_of_d ["arguments"] (spFn a.flt .max) := by
  have G_need_number := ok_need_number (base := base) T
  refine T.greatest_of.F.okX sc_greatest_of (fun vs H Q E h => ?_) (fun cdv A outer s H vs Q E hr h => ?_)
  · obtain ⟨H0, b, xs, l, rfl, _⟩ := h
    rfl
  · obtain ⟨H0, b, xs, l, rfl, hb, gr, fr, ok, hl, q⟩ := h
    obtain ⟨x, y, rfl⟩ := two_of hl
    obtain ⟨v, u, rfl⟩ := two_of (fr.at_.length)
    cases fr.at_ with
    | cons rv r2 =>
    cases r2 with
    | cons ru _ =>
    refine ⟨_, (pss_one (ps_ret (pe_callB (call_max2 rfl) rfl T.b_max (by decide +kernel) (pa_cons (pe_cd T.need_number G_need_number (hr.mono (by omega)) (passes_call (takes_of rfl rfl rfl rfl) (fun _ _ _ _ z => z)) (pa_cons (pe_ix ix_list (pv 0) pe_int (fun _ _ => rfl)) pa_nil)) (pa_cons (pe_cd T.need_number G_need_number (hr.mono (by omega)) (passes_call (takes_of rfl rfl rfl rfl) (fun _ _ _ _ z => z)) (pa_cons (pe_ix ix_list (pv 0) pe_int (fun _ _ => rfl)) pa_nil)) pa_nil))))), ?_⟩
    refine ⟨_, rfl, b, _, 0, v, rfl, rfl, SqL.of hb, rfl, v, x, rfl, rv.rd, ?_⟩
    by_cases c : kindN x = "number"
    · refine (if_pos c).mpr ⟨_, rfl, b, _, 1, u, rfl, rfl, SqL.of hb, rfl, u, y, rfl, ru.rd, ?_⟩
      cases x with
      | num i =>
        by_cases c2 : kindN y = "number"
        · refine (if_pos c2).mpr ?_
          cases y with
          | num j =>
            cases rv
            cases ru
            exact ⟨i, j, rfl, q _ _ (Same.refl H) (Fresh.num _)⟩
          | _ => cases c2
        · refine (if_neg c2).mpr ?_
          cases y <;> first | exact q | exact absurd rfl c2
      | _ => cases c
    · refine (if_neg c).mpr ?_
      cases x <;> first | exact q | exact absurd rfl c
def spCallF (C : Addr) : Sp := fun vs H Q E => ∃ f H0 b xs l, vs = [.str (Fn.name f), .ref b] ∧ H b = some (.lst xs) ∧ Gr H0 H ∧ FreshL H0 H xs l ∧ argsOk l ∧ l.length = f.arity ∧ AnsF C H0 H (mCall f l) Q E
theorem ok_call_function (T : Txt P w K mg a) : FnOk P w K mg base (L2.CX P w) 28 a.call_function a.call_function_d ["name", "arguments"] (spCallF a.flt) := by
  have G_length_of := ok_length_of (base := base) T
  have G_text_from := ok_text_from (base := base) T
  have G_get_from := ok_get_from (base := base) T
  have G_keys_of := ok_keys_of (base := base) T
  have G_least_of := ok_least_of (base := base) T
  have G_greatest_of := ok_greatest_of (base := base) T
  obtain ⟨dF, hF, kd⟩ := T.fns
  refine T.call_function.F.okX sc_call_function (fun vs H Q E h => ?_) (fun cdv A outer s H vs Q E hr h => ?_)
  · obtain ⟨f, H0, b, xs, l, rfl, _⟩ := h
    rfl
  · obtain ⟨f, H0, b, xs, l, rfl, hb, gr, fr, ok, hl, q⟩ := h
    have kf := kd f
    cases f with
    | length =>
      refine ⟨_, (pss_cons (ps_set (i := 2) sc_call_function.nd rfl (Or.inl rfl) (pe_ix ix_kdict (pe_glob (v := .ref dF) rfl hF rfl) (pv 0) (fun _ _ => rfl)))
      (pss_one (ps_ret (pe_callL (i := 2) G_length_of (hr.mono (by omega)) rfl (by first | exact Or.inl rfl | exact Or.inr (Or.inl rfl) | exact Or.inr (Or.inr rfl)) T.length_of.F.kp T.length_of.b .nil (passes_call (takes_of rfl rfl rfl rfl) (fun _ _ _ _ z => z)) (pa_cons (pv 1) pa_nil))))), ?_⟩
      exact ⟨_, rfl, _, _, _, rfl, rfl, kf, rfl, _, rfl, H0, b, xs, l, rfl, hb, gr, fr, ok, hl, q⟩
    | text =>
      refine ⟨_, (pss_cons (ps_set (i := 2) sc_call_function.nd rfl (Or.inl rfl) (pe_ix ix_kdict (pe_glob (v := .ref dF) rfl hF rfl) (pv 0) (fun _ _ => rfl)))
      (pss_one (ps_ret (pe_callL (i := 2) G_text_from (hr.mono (by omega)) rfl (by first | exact Or.inl rfl | exact Or.inr (Or.inl rfl) | exact Or.inr (Or.inr rfl)) T.text_from.F.kp T.text_from.b .nil (passes_call (takes_of rfl rfl rfl rfl) (fun _ _ _ _ z => z)) (pa_cons (pv 1) pa_nil))))), ?_⟩
      exact ⟨_, rfl, _, _, _, rfl, rfl, kf, rfl, _, rfl, H0, b, xs, l, rfl, hb, gr, fr, ok, hl, q⟩
    | get =>
      refine ⟨_, (pss_cons (ps_set (i := 2) sc_call_function.nd rfl (Or.inl rfl) (pe_ix ix_kdict (pe_glob (v := .ref dF) rfl hF rfl) (pv 0) (fun _ _ => rfl)))
      (pss_one (ps_ret (pe_callL (i := 2) G_get_from (hr.mono (by omega)) rfl (by first | exact Or.inl rfl | exact Or.inr (Or.inl rfl) | exact Or.inr (Or.inr rfl)) T.get_from.F.kp T.get_from.b .nil (passes_call (takes_of rfl rfl rfl rfl) (fun _ _ _ _ z => z)) (pa_cons (pv 1) pa_nil))))), ?_⟩
      exact ⟨_, rfl, _, _, _, rfl, rfl, kf, rfl, _, rfl, H0, b, xs, l, rfl, hb, gr, fr, ok, hl, q⟩
    | keys =>
      refine ⟨_, (pss_cons (ps_set (i := 2) sc_call_function.nd rfl (Or.inl rfl) (pe_ix ix_kdict (pe_glob (v := .ref dF) rfl hF rfl) (pv 0) (fun _ _ => rfl)))
      (pss_one (ps_ret (pe_callL (i := 2) G_keys_of (hr.mono (by omega)) rfl (by first | exact Or.inl rfl | exact Or.inr (Or.inl rfl) | exact Or.inr (Or.inr rfl)) T.keys_of.F.kp T.keys_of.b .nil (passes_call (takes_of rfl rfl rfl rfl) (fun _ _ _ _ z => z)) (pa_cons (pv 1) pa_nil))))), ?_⟩
      exact ⟨_, rfl, _, _, _, rfl, rfl, kf, rfl, _, rfl, H0, b, xs, l, rfl, hb, gr, fr, ok, hl, q⟩
    | min =>
      refine ⟨_, (pss_cons (ps_set (i := 2) sc_call_function.nd rfl (Or.inl rfl) (pe_ix ix_kdict (pe_glob (v := .ref dF) rfl hF rfl) (pv 0) (fun _ _ => rfl)))
      (pss_one (ps_ret (pe_callL (i := 2) G_least_of (hr.mono (by omega)) rfl (by first | exact Or.inl rfl | exact Or.inr (Or.inl rfl) | exact Or.inr (Or.inr rfl)) T.least_of.F.kp T.least_of.b .nil (passes_call (takes_of rfl rfl rfl rfl) (fun _ _ _ _ z => z)) (pa_cons (pv 1) pa_nil))))), ?_⟩
      exact ⟨_, rfl, _, _, _, rfl, rfl, kf, rfl, _, rfl, H0, b, xs, l, rfl, hb, gr, fr, ok, hl, q⟩
    | max =>
      refine ⟨_, (pss_cons (ps_set (i := 2) sc_call_function.nd rfl (Or.inl rfl) (pe_ix ix_kdict (pe_glob (v := .ref dF) rfl hF rfl) (pv 0) (fun _ _ => rfl)))
      (pss_one (ps_ret (pe_callL (i := 2) G_greatest_of (hr.mono (by omega)) rfl (by first | exact Or.inl rfl | exact Or.inr (Or.inl rfl) | exact Or.inr (Or.inr rfl)) T.greatest_of.F.kp T.greatest_of.b .nil (passes_call (takes_of rfl rfl rfl rfl) (fun _ _ _ _ z => z)) (pa_cons (pv 1) pa_nil))))), ?_⟩
      exact ⟨_, rfl, _, _, _, rfl, rfl, kf, rfl, _, rfl, H0, b, xs, l, rfl, hb, gr, fr, ok, hl, q⟩
end
end K19
namespace K19
open PySem PySem.Spec PyProof.Rows L2
theorem sc_add : FnScope nm_add ["first", "second"] (defScope s_add) := ⟨rfl, rfl, rfl, by decide +kernel, rfl, by decide +kernel, by decide +kernel⟩
theorem sc_calculate : FnScope nm_calculate ["sign", "first", "second"] (defScope s_calculate) := ⟨rfl, rfl, rfl, by decide +kernel, rfl, by decide +kernel, by decide +kernel⟩
theorem sc_compare : FnScope nm_compare ["sign", "first", "second"] (defScope s_compare) := ⟨rfl, rfl, rfl, by decide +kernel, rfl, by decide +kernel, by decide +kernel⟩
theorem sc_operate : FnScope nm_operate ["sign", "first", "second"] (defScope s_operate) := ⟨rfl, rfl, rfl, by decide +kernel, rfl, by decide +kernel, by decide +kernel⟩

theorem mMade_ok {x y : Val} (e : mMade x = .ok y) : y = x := by
  unfold mMade at e
  split at e
  · cases e
  · split at e
    · cases e
    · split at e
      · cases e
      · exact (Except.ok.inj e).symm
/-- from bounded's answer to a value of its own -/
theorem made_fresh {C : Addr} {H0 H H1 : Hp} {x : Val} {v : V} {Q : VK} {E : XK} (q : AnsF C H0 H (mMade x) Q E) (s : Same H H1) (f : Fresh H0 H1 v x) : AnsI C H1 (mMade x) (fun _ => ∀ H', Same H1 H' → Q v H') E := by
  cases e : mMade x with
  | error m =>
    rw [e] at q
    exact Bad.later q s
  | ok y =>
    have ey := mMade_ok e
    subst ey
    rw [e] at q
    intro H2 s2
    exact q _ _ (s.trans s2) (f.same s2)
theorem AnsF.later {C : Addr} {H0 H H1 : Hp} {r : Res} {Q : VK} {E : XK} (q : AnsF C H0 H r Q E) (s : Same H H1) : AnsF C H0 H1 r Q E := by
  cases r with
  | error m => exact Bad.later q s
  | ok y => exact fun v H2 s2 f => q v H2 (s.trans s2) f
def isNN : Val → Val → Bool
  | .num _, .num _ => true
  | _, _ => false
def isLL : Val → Val → Bool
  | .lst _, .lst _ => true
  | _, _ => false
def isTT : Val → Val → Bool
  | .txt _, .txt _ => true
  | _, _ => false
theorem kk_nn (x y : Val) : kk x y "number" "number" = isNN x y := by
  cases x <;> cases y <;> kernel_rfl
theorem kk_ll (x y : Val) : kk x y "list" "list" = isLL x y := by
  cases x <;> cases y <;> kernel_rfl
theorem kk_tt (x y : Val) : kk x y "text" "text" = isTT x y := by
  cases x <;> cases y <;> kernel_rfl
theorem in_kinds (x y : Val) : inV (.str "text") [.str (kindN x), .str (kindN y)] = (isTxt x || isTxt y) := by
  cases x <;> cases y <;> kernel_rfl
theorem ofS_len (s : String) : (Str.ofString s).length = s.toList.length := by
  have := congrArg List.length (signs_ofString s)
  rw [List.length_map] at this
  rw [← this]
  simp [Str.length]
theorem nat_repr_len {n : Nat} (h : n ≤ 1000000000000000000000000000000) : (toString n).toList.length ≤ 31 := by
  show (Nat.repr n).toList.length ≤ 31
  rw [Nat.toList_repr]
  exact digits10_le (by decide) (Nat.lt_of_le_of_lt h (by decide))
theorem numT_len {i : Int} (h : i.natAbs ≤ 1000000000000000000000000000000) : (Str.ofString (toString i)).length ≤ 40 := by
  rw [ofS_len]
  cases i with
  | ofNat m =>
    have := nat_repr_len (n := m) h
    exact Nat.le_trans this (by decide)
  | negSucc m =>
    have := nat_repr_len (n := m + 1) h
    show ("-" ++ toString (m + 1)).toList.length ≤ 40
    rw [String.toList_append, List.length_append]
    have e : ("-" : String).toList.length = 1 := rfl
    rw [e]
    omega
theorem FreshL.two {H0 H : Hp} {d1 d2 : Addr} {xs ys : List V} {l m : List Val} (h : FreshL H0 H [.ref d1, .ref d2] [.lst l, .lst m]) (g1 : H d1 = some (.lst xs)) (g2 : H d2 = some (.lst ys)) : FreshL H0 H (xs ++ ys) (l ++ m) := by
  obtain ⟨F, o, nd, f⟩ := h
  cases o with
  | cons oa ob =>
  cases oa with
  | lst ga ra =>
  rw [g1] at ga
  cases ga
  cases ob with
  | cons oc od =>
  cases od
  cases oc with
  | lst gb rb =>
  rw [g2] at gb
  cases gb
  rename_i F1 F2
  refine ⟨F1 ++ F2, ra.append rb, ?_, fun a ha => f a ?_⟩
  · rw [List.append_nil] at nd
    refine nd.sublist ?_
    exact List.Sublist.append (List.sublist_cons_self _ _) (List.sublist_cons_self _ _)
  · rw [List.append_nil]
    rcases List.mem_append.mp ha with q | q
    · exact List.mem_append_left _ (List.mem_cons_of_mem _ q)
    · exact List.mem_append_right _ (List.mem_cons_of_mem _ q)
theorem FreshL.new {H0 H H' : Hp} {p : Addr} {xs : List V} {l : List Val} (h : FreshL H0 H xs l) (gr : Gr H0 H) (s : Same H H') (hp : H' p = none) : Fresh H0 (L2.upd H' p (.lst xs)) (.ref p) (.lst l) := by
  obtain ⟨F, o, nd, f⟩ := h
  have hpF : p ∉ F := fun m => o.there p m (s.free hp)
  refine ⟨p :: F, .lst upd_same (o.same (same_snoc s hp _)), List.nodup_cons.mpr ⟨hpF, nd⟩, fun a ha => ?_⟩
  rcases List.mem_cons.mp ha with e | m
  · rw [e]
    exact gr _ (s.free hp)
  · exact f a m
theorem okL_append (l m : List Val) : okL (l ++ m) = (okL l && okL m) := by
  induction l with
  | nil => rfl
  | cons x r ih => simp only [List.cons_append, okL, ih, Bool.and_assoc]
theorem text_len {x : Val} {s : Str} (h : textOf x = some s) (ho : okV x = true) : s.length ≤ sizeV x + 40 := by
  cases x with
  | nul =>
    cases h
    exact Nat.zero_le _
  | boo b =>
    cases h
    cases b <;> exact Nat.le_trans (by decide : _ ≤ 40) (Nat.le_add_left _ _)
  | num i =>
    cases h
    have := numT_len (i := i) (by simpa [okV] using ho)
    omega
  | txt t =>
    cases h
    simp only [sizeV]
    omega
  | _ => cases h
section
variable {P : Program} {w : World} {K : PySem.W.Frag} {mg : Str → Option Value} {base : Heap} {a : Ads}
def spAdd (C : Addr) : Sp := fun vs H Q E => ∃ H0 v u x y, vs = [v, u] ∧ Gr H0 H ∧ FreshL H0 H [v, u] [x, y] ∧ argsOk [x, y] ∧ AnsF C H0 H (mAdd x y) Q E
theorem ok_add (T : Txt P w K mg a) : FnOk P w K mg base (L2.CX P w) 27 a.add a.add_d ["first", "second"] (spAdd a.flt) := by
  have G_kind_of_value := ok_kind_of_value (base := base) T
  have G_bounded := ok_bounded (base := base) T
  have G_bounded_number := ok_bounded_number (base := base) T
  have G_bounded_text := ok_bounded_text (base := base) T
  have G_text_of := ok_text_of (base := base) T
  refine T.add.F.okX sc_add (fun vs H Q E h => ?_) (fun cdv A outer s H vs Q E hr h => ?_)
  · obtain ⟨H0, v, u, x, y, rfl, _⟩ := h
    rfl
  · obtain ⟨H0, v, u, x, y, rfl, gr, fr, ok, q⟩ := h
    obtain ⟨o1, o2, o3⟩ := ok x (by simp)
    obtain ⟨p1, p2, p3⟩ := ok y (by simp)
    cases fr.at_ with
    | cons rv r2 =>
    cases r2 with
    | cons ru _ =>
    cases c1 : isNN x y with
    | true =>
      refine ⟨_, (pss_cons (ps_set (i := 2) sc_add.nd rfl (Or.inl rfl) (pe_tup (pa_cons (pe_cd T.kind_of_value G_kind_of_value (hr.mono (by omega)) pass0 (pa_cons (pv 0) pa_nil)) (pa_cons (pe_cd T.kind_of_value G_kind_of_value (hr.mono (by omega)) pass0 (pa_cons (pv 1) pa_nil)) pa_nil))))
      (pss_cons (ps_if (pt_cmpR (op_eqTT hr.units) (pv 2) (pe_tup (pa_cons pe_str (pa_cons pe_str pa_nil))) (nomark _)) (pss_one (ps_ret (pe_cd T.bounded_number G_bounded_number (hr.mono (by omega)) (passes_call (takes_of rfl rfl rfl rfl) (fun _ _ _ _ z => z)) (pa_cons (pe_op op_add (pv 0) (pv 1)) pa_nil)))) pss_nil)
      (pss_cons (ps_if (pt_cmpR (op_eqTT hr.units) (pv 2) (pe_tup (pa_cons pe_str (pa_cons pe_str pa_nil))) (nomark _)) (pss_one (ps_ret (pe_cd T.bounded G_bounded (hr.mono (by omega)) (passes_call (takes_of rfl rfl rfl rfl) (fun _ _ _ _ z => z)) (pa_cons (pe_op op_add (pv 0) (pv 1)) pa_nil)))) pss_nil)
      (pss_cons (ps_if (pt_cmpR op_notIn_seq pe_str (pv 2) (by rfl)) (pss_one (ps_raiseFlt rfl T.flt hr (takes_of rfl rfl rfl rfl) (pa_cons pe_str pa_nil))) pss_nil)
      (pss_cons (ps_set (i := 3) sc_add.nd rfl (Or.inl rfl) (pe_cd T.text_of G_text_of (hr.mono (by omega)) pass0 (pa_cons (pv 0) pa_nil)))
      (pss_cons (ps_set (i := 4) sc_add.nd rfl (Or.inl rfl) (pe_cd T.text_of G_text_of (hr.mono (by omega)) pass0 (pa_cons (pv 1) pa_nil)))
      (pss_cons (ps_if (PW.pt (pw_or (pt_cmpR op_isN (pv 3) pe_non (nomark _)) (pw_or1 (pt_cmpR op_isN (pv 4) pe_non (nomark _))))) (pss_one (ps_raiseFlt rfl T.flt hr (takes_of rfl rfl rfl rfl) (pa_cons pe_str pa_nil))) pss_nil)
      (pss_one (ps_ret (pe_cd T.bounded_text G_bounded_text (hr.mono (by omega)) (passes_call (takes_of rfl rfl rfl rfl) (fun _ _ _ _ z => z)) (pa_cons (pe_op op_add_str (pv 3) (pv 4)) pa_nil))))))))))), ?_⟩
      refine ⟨_, rfl, v, x, rfl, rv.rd, _, rfl, u, y, rfl, ru.rd, by show 2 ≤ sizeLine; decide, fun t ht => ?_⟩
      have s1 : Same H (upd H t (.tup [.str (kindN x), .str (kindN y)])) := same_new ht _
      have q1 := upd_same (H := H) (a := t) (o := .tup [.str (kindN x), .str (kindN y)])
      refine kindsT rfl q1 (kinds_ok x y) (by kernel_rfl) fun H2 s2 => ?_
      refine iteD ((kk_nn x y).trans c1) ?_
      cases x with
      | num i =>
        cases y with
        | num j =>
          cases rv
          cases ru
          refine ⟨_, rfl, _, rfl, _, _, rfl, rfl, _, rfl, ?_⟩
          have s3 := s1.trans s2
          have q : AnsF a.flt H0 H (mNum (i + j)) Q E := q
          have q := q.later s3
          cases e : mNum (i + j) with
          | error m =>
            rw [e] at q
            exact q
          | ok z =>
            rw [e] at q
            have : z = .num (i + j) := by
              unfold mNum at e
              split at e
              · cases e
              · exact (Except.ok.inj e).symm
            subst this
            exact q _ _ (Same.refl H2) (Fresh.num _)
        | _ => cases c1
      | _ => cases c1
    | false =>
      refine ⟨_, (pss_cons (ps_set (i := 2) sc_add.nd rfl (Or.inl rfl) (pe_tup (pa_cons (pe_cd T.kind_of_value G_kind_of_value (hr.mono (by omega)) pass0 (pa_cons (pv 0) pa_nil)) (pa_cons (pe_cd T.kind_of_value G_kind_of_value (hr.mono (by omega)) pass0 (pa_cons (pv 1) pa_nil)) pa_nil))))
      (pss_cons (ps_if (pt_cmpR (op_eqTT hr.units) (pv 2) (pe_tup (pa_cons pe_str (pa_cons pe_str pa_nil))) (nomark _)) (pss_one (ps_ret (pe_cd T.bounded_number G_bounded_number (hr.mono (by omega)) (passes_call (takes_of rfl rfl rfl rfl) (fun _ _ _ _ z => z)) (pa_cons (pe_op op_cat (pv 0) (pv 1)) pa_nil)))) pss_nil)
      (pss_cons (ps_if (pt_cmpR (op_eqTT hr.units) (pv 2) (pe_tup (pa_cons pe_str (pa_cons pe_str pa_nil))) (nomark _)) (pss_one (ps_ret (pe_cd T.bounded G_bounded (hr.mono (by omega)) (passes_call (takes_of rfl rfl rfl rfl) (fun _ _ _ _ z => z)) (pa_cons (pe_op op_cat (pv 0) (pv 1)) pa_nil)))) pss_nil)
      (pss_cons (ps_if (pt_cmpR op_notIn_seq pe_str (pv 2) (by rfl)) (pss_one (ps_raiseFlt rfl T.flt hr (takes_of rfl rfl rfl rfl) (pa_cons pe_str pa_nil))) pss_nil)
      (pss_cons (ps_set (i := 3) sc_add.nd rfl (Or.inl rfl) (pe_cd T.text_of G_text_of (hr.mono (by omega)) pass0 (pa_cons (pv 0) pa_nil)))
      (pss_cons (ps_set (i := 4) sc_add.nd rfl (Or.inl rfl) (pe_cd T.text_of G_text_of (hr.mono (by omega)) pass0 (pa_cons (pv 1) pa_nil)))
      (pss_cons (ps_if (PW.pt (pw_or (pt_cmpR op_isN (pv 3) pe_non (nomark _)) (pw_or1 (pt_cmpR op_isN (pv 4) pe_non (nomark _))))) (pss_one (ps_raiseFlt rfl T.flt hr (takes_of rfl rfl rfl rfl) (pa_cons pe_str pa_nil))) pss_nil)
      (pss_one (ps_ret (pe_cd T.bounded_text G_bounded_text (hr.mono (by omega)) (passes_call (takes_of rfl rfl rfl rfl) (fun _ _ _ _ z => z)) (pa_cons (pe_op op_add_str (pv 3) (pv 4)) pa_nil))))))))))), ?_⟩
      refine ⟨_, rfl, v, x, rfl, rv.rd, _, rfl, u, y, rfl, ru.rd, by show 2 ≤ sizeLine; decide, fun t ht => ?_⟩
      have s1 : Same H (upd H t (.tup [.str (kindN x), .str (kindN y)])) := same_new ht _
      have q1 := upd_same (H := H) (a := t) (o := .tup [.str (kindN x), .str (kindN y)])
      refine kindsT rfl q1 (kinds_ok x y) (by kernel_rfl) fun H2 s2 => ?_
      refine iteE ((kk_nn x y).trans c1) ?_
      refine kindsT rfl (s2 _ _ q1) (kinds_ok x y) (by kernel_rfl) fun H3 s3 => ?_
      have s4 := (s1.trans s2).trans s3
      cases c2 : isLL x y with
      | true =>
        refine iteD ((kk_ll x y).trans c2) ?_
        cases x with
        | lst l =>
          cases y with
          | lst m =>
            cases rv with
            | @lst d1 xs _ g1 r1 =>
            cases ru with
            | @lst d2 ys _ g2 r2 =>
            have k1 := sizeL_len l
            have k2 := sizeL_len m
            simp only [sizeV] at o3 p3
            simp only [depthV] at o2 p2
            have e1 := r1.length
            have e2 := r2.length
            refine ⟨_, rfl, _, rfl, d1, d2, xs, ys, rfl, rfl, s4 _ _ g1, s4 _ _ g2, le_line (by omega), fun p hp => ?_⟩
            have s5 := same_snoc s4 hp (.lst (xs ++ ys))
            have q : AnsF a.flt H0 H (mMade (.lst (l ++ m))) Q E := q
            have fr' : Fresh H0 (upd H3 p (.lst (xs ++ ys))) (.ref p) (.lst (l ++ m)) := FreshL.new (fr.two g1 g2) gr s4 hp
            refine ⟨_, _, rfl, .lst upd_same ((r1.append r2).same s5), ?_, ?_, ?_, made_fresh q s5 fr'⟩
            · show okL (l ++ m) = true
              rw [okL_append, Bool.and_eq_true]
              exact ⟨o1, p1⟩
            · simp only [depthV, depthL_append]
              omega
            · simp only [sizeV, sizeL_append]
              omega
          | _ => cases c2
        | _ => cases c2
      | false =>
        refine iteE ((kk_ll x y).trans c2) ?_
        have em : mAdd x y = (if isTxt x || isTxt y then (match textOf x, textOf y with | some s, some t => mTxt (s ++ t) | _, _ => .error "not a text") else .error "not to be added" : Res) := by
          cases x <;> cases y <;> first | rfl | (simp [isNN] at c1; done) | (simp [isLL] at c2; done)
        rw [em] at q
        refine ⟨_, rfl, t, [.str (kindN x), .str (kindN y)], rfl, .inr (SqT.of (s3 _ _ (s2 _ _ q1))), rfl, rfl, _, rfl, ?_⟩
        have ei := in_kinds x y
        cases c3 : (isTxt x || isTxt y) with
        | false =>
          rw [c3] at q ei
          exact iteD (by rw [ei]; rfl) ⟨_, rfl, fun d hd => q d _ (same_snoc s4 hd _) upd_same⟩
        | true =>
          rw [c3] at q ei
          refine iteE (by rw [ei]; rfl) ?_
          refine ⟨_, rfl, v, x, rfl, (rv.same s4).rd, o1, _, rfl, u, y, rfl, (ru.same s4).rd, p1, ?_⟩
          rw [if_pos rfl] at q
          cases ex : textOf x with
          | none =>
            rw [ex] at q
            exact ⟨_, rfl, rfl, _, rfl, iteT (iteT ⟨_, rfl, fun d hd => q d _ (same_snoc s4 hd _) upd_same⟩)⟩
          | some z1 =>
            cases ey : textOf y with
            | none =>
              rw [ex, ey] at q
              exact ⟨_, rfl, rfl, _, rfl, iteF ⟨_, rfl, rfl, _, rfl, iteT ⟨_, rfl, fun d hd => q d _ (same_snoc s4 hd _) upd_same⟩⟩⟩
            | some z2 =>
              rw [ex, ey] at q
              have k1 := text_len ex o1
              have k2 := text_len ey p1
              have el : (z1 ++ z2).length = z1.length + z2.length := Array.size_append
              have q : AnsF a.flt H0 H (mTxt (z1 ++ z2)) Q E := q
              refine ⟨_, rfl, rfl, _, rfl, iteF ⟨_, rfl, rfl, _, rfl, iteF ⟨_, rfl, _, rfl, _, _, rfl, rfl, le_line (by omega), _, rfl, by omega, ?_⟩⟩⟩
              have q := q.later s4
              cases e : mTxt (z1 ++ z2) with
              | error m =>
                rw [e] at q
                exact q
              | ok z =>
                rw [e] at q
                have : z = .txt (z1 ++ z2) := by
                  unfold mTxt at e
                  split at e
                  · cases e
                  · exact (Except.ok.inj e).symm
                subst this
                exact q _ _ (Same.refl H3) (Fresh.txt _)
def spCalc (C : Addr) : Sp := fun vs H Q E => ∃ H0 g v u x y, vs = [.str g, v, u] ∧ (g = "-" ∨ g = "*" ∨ g = "/") ∧ Rep (At H) v x ∧ Rep (At H) u y ∧ argsOk [x, y] ∧ AnsF C H0 H (mCalc g x y) Q E
theorem num_le {i : Int} (h : okV (.num i) = true) : i.natAbs ≤ 1000000000000000000000000000000 := by simpa [okV] using h
theorem mNum_ok {i : Int} {z : Val} (e : mNum i = .ok z) : z = .num i := by
  unfold mNum at e
  split at e
  · cases e
  · exact (Except.ok.inj e).symm
theorem num_ans {C : Addr} {H0 H : Hp} {i : Int} {Q : VK} {E : XK} (q : AnsF C H0 H (mNum i) Q E) : AnsI C H (mNum i) (fun _ => Q (.int i) H) E := by
  cases e : mNum i with
  | error m =>
    rw [e] at q
    exact q
  | ok z =>
    rw [e] at q
    have := mNum_ok e
    subst this
    exact q _ _ (Same.refl H) (Fresh.num _)
theorem ok_calculate (T : Txt P w K mg a) : FnOk P w K mg base (L2.CX P w) 3 a.calculate a.calculate_d ["sign", "first", "second"] (spCalc a.flt) := by
  have G_need_number := ok_need_number (base := base) T
  have G_bounded_number := ok_bounded_number (base := base) T
  have G_quotient := ok_quotient (base := base) T
  refine T.calculate.F.okX sc_calculate (fun vs H Q E h => ?_) (fun cdv A outer s H vs Q E hr h => ?_)
  · obtain ⟨H0, g, v, u, x, y, rfl, _⟩ := h
    rfl
  · obtain ⟨H0, g, v, u, x, y, rfl, hg, rv, ru, ok, q⟩ := h
    have o1 := (ok x (by simp)).1
    have p1 := (ok y (by simp)).1
    refine ⟨_, (pss_cons (ps_set (i := 3) sc_calculate.nd rfl (Or.inl rfl) (pe_cd T.need_number G_need_number (hr.mono (by omega)) (passes_call (takes_of rfl rfl rfl rfl) (fun _ _ _ _ z => z)) (pa_cons (pv 1) pa_nil)))
      (pss_cons (ps_set (i := 4) sc_calculate.nd rfl (Or.inl rfl) (pe_cd T.need_number G_need_number (hr.mono (by omega)) (passes_call (takes_of rfl rfl rfl rfl) (fun _ _ _ _ z => z)) (pa_cons (pv 2) pa_nil)))
      (pss_cons (ps_if (pt_cmpR op_eq (pv 0) pe_str (nomark _)) (pss_one (ps_ret (pe_cd T.bounded_number G_bounded_number (hr.mono (by omega)) (passes_call (takes_of rfl rfl rfl rfl) (fun _ _ _ _ z => z)) (pa_cons (pe_op op_sub (pv 3) (pv 4)) pa_nil)))) pss_nil)
      (pss_cons (ps_if (pt_cmpR op_eq (pv 0) pe_str (nomark _)) (pss_one (ps_ret (pe_cd T.bounded_number G_bounded_number (hr.mono (by omega)) (passes_call (takes_of rfl rfl rfl rfl) (fun _ _ _ _ z => z)) (pa_cons (pe_op op_mulW (pv 3) (pv 4)) pa_nil)))) pss_nil)
      (pss_one (ps_ret (pe_cd T.bounded_number G_bounded_number (hr.mono (by omega)) (passes_call (takes_of rfl rfl rfl rfl) (fun _ _ _ _ z => z)) (pa_cons (pe_cd T.quotient G_quotient (hr.mono (by omega)) (passes_call (takes_of rfl rfl rfl rfl) (fun _ _ _ _ z => z)) (pa_cons (pv 3) (pa_cons (pv 4) pa_nil))) pa_nil)))))))), ?_⟩
    refine ⟨_, rfl, v, x, rfl, rv.rd, ?_⟩
    by_cases c : kindN x = "number"
    · refine (if_pos c).mpr ⟨_, rfl, u, y, rfl, ru.rd, ?_⟩
      cases x with
      | num i =>
        by_cases c2 : kindN y = "number"
        · refine (if_pos c2).mpr ?_
          cases y with
          | num j =>
            cases rv
            cases ru
            have hi := num_le o1
            have hj := num_le p1
            rcases hg with rfl | rfl | rfl
            · refine ⟨_, rfl, rfl, _, rfl, iteT ⟨_, rfl, _, rfl, _, _, rfl, rfl, _, rfl, ?_⟩⟩
              exact num_ans (i := i - j) q
            · refine ⟨_, rfl, rfl, _, rfl, iteF ⟨_, rfl, rfl, _, rfl, iteT ⟨_, rfl, _, rfl, _, _, rfl, rfl, ?_, _, rfl, ?_⟩⟩⟩
              · exact wide_mul (small_pow hi) (small_pow hj) (by decide) (by decide) (by decide)
              · exact num_ans (i := i * j) q
            · refine ⟨_, rfl, rfl, _, rfl, iteF ⟨_, rfl, rfl, _, rfl, iteF ⟨_, rfl, _, rfl, _, _, rfl, hj, ?_⟩⟩⟩
              have q : AnsF a.flt H0 H (if j = 0 then .error "division by 0" else mNum (mQuo i j)) Q E := q
              by_cases c3 : j = 0
              · rw [if_pos c3] at q
                rw [if_pos c3]
                exact q
              · rw [if_neg c3] at q
                rw [if_neg c3]
                exact ⟨_, rfl, num_ans q⟩
          | _ => cases c2
        · refine (if_neg c2).mpr ?_
          cases y <;> first | exact q | exact absurd rfl c2
      | _ => cases c
    · refine (if_neg c).mpr ?_
      cases x <;> first | exact q | exact absurd rfl c
theorem le_ge (x y : Str) : leS x y = !decide (y.cps.toList < x.cps.toList) := by
  cases e : leS x y with
  | true => rw [decide_eq_false (leS_iff.mp e)]; rfl
  | false =>
    rw [decide_eq_true]
    · rfl
    · exact Classical.byContradiction fun h => by
        rw [leS_iff.mpr h] at e
        cases e
theorem kindsN {K : PySem.W.Frag} {i : Nat} {σ : L2.St} {t : Addr} {H1 : Hp} {kx ky x1 x2 : Str} {R : Bool → Hp → Prop} (hσ : σ[i]? = some (some (.ref t))) (hs : H1 t = some (.tup [.str kx, .str ky])) (hk : okK [kx, ky] = true) (ha : okK [x1, x2] = true) (h : ∀ H2, Same H1 H2 → R (!decide ([kx, ky] = [x1, x2])) H2) :
    tTest (tOp (rRow K true true) (tVar i) (tTup (tCons (tC (.str x1)) (tCons (tC (.str x2)) tNil)))) σ H1 R :=
  ⟨_, hσ, by show 2 ≤ sizeLine; decide, fun q hq => ⟨t, q, [kx, ky], [x1, x2], rfl, rfl, ⟨SqT.of (same_new hq _ _ _ hs), SqT.of upd_same⟩, hk, ha, _, rfl, h _ (same_new hq _)⟩⟩
def spCmp (C : Addr) : Sp := fun vs H Q E => ∃ H0 g v u x y, vs = [.str g, v, u] ∧ (g = "<" ∨ g = "<=" ∨ g = ">" ∨ g = ">=") ∧ Rep (At H) v x ∧ Rep (At H) u y ∧ AnsF C H0 H (mCmp g x y) Q E
theorem ok_compare (T : Txt P w K mg a) : FnOk P w K mg base (L2.CX P w) 2 a.compare a.compare_d ["sign", "first", "second"] (spCmp a.flt) := by
  have G_kind_of_value := ok_kind_of_value (base := base) T
  refine T.compare.F.okX sc_compare (fun vs H Q E h => ?_) (fun cdv A outer s H vs Q E hr h => ?_)
  · obtain ⟨H0, g, v, u, x, y, rfl, _⟩ := h
    rfl
  · obtain ⟨H0, g, v, u, x, y, rfl, hg, rv, ru, q⟩ := h
    cases c2 : isTT x y with
    | true =>
      refine ⟨_, (pss_cons (ps_set (i := 3) sc_compare.nd rfl (Or.inl rfl) (pe_tup (pa_cons (pe_cd T.kind_of_value G_kind_of_value (hr.mono (by omega)) pass0 (pa_cons (pv 1) pa_nil)) (pa_cons (pe_cd T.kind_of_value G_kind_of_value (hr.mono (by omega)) pass0 (pa_cons (pv 2) pa_nil)) pa_nil))))
      (pss_cons (ps_if (PW.pt (pw_and (pt_cmpR (op_neTT hr.units) (pv 3) (pe_tup (pa_cons pe_str (pa_cons pe_str pa_nil))) (nomark _)) (pw_and1 (pt_cmpR (op_neTT hr.units) (pv 3) (pe_tup (pa_cons pe_str (pa_cons pe_str pa_nil))) (nomark _))))) (pss_one (ps_raiseFlt rfl T.flt hr (takes_of rfl rfl rfl rfl) (pa_cons pe_str pa_nil))) pss_nil)
      (pss_cons (ps_if (pt_cmpR op_eq (pv 0) pe_str (nomark _)) (pss_one (ps_ret (pe_cmpR op_lt_str (pv 1) (pv 2) (nomark _)))) pss_nil)
      (pss_cons (ps_if (pt_cmpR op_eq (pv 0) pe_str (nomark _)) (pss_one (ps_ret (pe_cmpR op_le_str (pv 1) (pv 2) (nomark _)))) pss_nil)
      (pss_cons (ps_if (pt_cmpR op_eq (pv 0) pe_str (nomark _)) (pss_one (ps_ret (pe_cmpR op_gt_str (pv 1) (pv 2) (nomark _)))) pss_nil)
      (pss_one (ps_ret (pe_cmpR op_ge_str (pv 1) (pv 2) (nomark _))))))))), ?_⟩
      refine ⟨_, rfl, v, x, rfl, rv.rd, _, rfl, u, y, rfl, ru.rd, by show 2 ≤ sizeLine; decide, fun t ht => ?_⟩
      have s1 : Same H (upd H t (.tup [.str (kindN x), .str (kindN y)])) := same_new ht _
      have q1 := upd_same (H := H) (a := t) (o := .tup [.str (kindN x), .str (kindN y)])
      refine kindsN rfl q1 (kinds_ok x y) (by kernel_rfl) fun H2 s2 => ?_
      have s3 := s1.trans s2
      have c1 : isNN x y = false := by cases x <;> cases y <;> first | rfl | (simp [isTT] at c2; done)
      refine iteD (congrArg not ((kk_nn x y).trans c1)) ?_
      refine kindsN rfl (s2 _ _ q1) (kinds_ok x y) (by kernel_rfl) fun H3 s4 => ?_
      refine iteE (congrArg not ((kk_tt x y).trans c2)) ?_
      have s5 := s3.trans s4
      cases x with
      | txt z =>
        cases y with
        | txt z2 =>
          cases rv
          cases ru
          rcases hg with rfl | rfl | rfl | rfl
          · exact ⟨_, rfl, rfl, _, rfl, iteT ⟨_, rfl, _, rfl, _, _, rfl, rfl, q _ _ s5 (Fresh.boo _)⟩⟩
          · refine ⟨_, rfl, rfl, _, rfl, iteF ⟨_, rfl, rfl, _, rfl, iteT ⟨_, rfl, _, rfl, _, _, rfl, rfl, ?_⟩⟩⟩
            rw [← le_ge]
            exact q _ _ s5 (Fresh.boo _)
          · exact ⟨_, rfl, rfl, _, rfl, iteF ⟨_, rfl, rfl, _, rfl, iteF ⟨_, rfl, rfl, _, rfl, iteT ⟨_, rfl, _, rfl, _, _, rfl, rfl, q _ _ s5 (Fresh.boo _)⟩⟩⟩⟩
          · refine ⟨_, rfl, rfl, _, rfl, iteF ⟨_, rfl, rfl, _, rfl, iteF ⟨_, rfl, rfl, _, rfl, iteF ⟨_, rfl, _, rfl, _, _, rfl, rfl, ?_⟩⟩⟩⟩
            rw [← le_ge]
            exact q _ _ s5 (Fresh.boo _)
        | _ => cases c2
      | _ => cases c2
    | false =>
      refine ⟨_, (pss_cons (ps_set (i := 3) sc_compare.nd rfl (Or.inl rfl) (pe_tup (pa_cons (pe_cd T.kind_of_value G_kind_of_value (hr.mono (by omega)) pass0 (pa_cons (pv 1) pa_nil)) (pa_cons (pe_cd T.kind_of_value G_kind_of_value (hr.mono (by omega)) pass0 (pa_cons (pv 2) pa_nil)) pa_nil))))
      (pss_cons (ps_if (PW.pt (pw_and (pt_cmpR (op_neTT hr.units) (pv 3) (pe_tup (pa_cons pe_str (pa_cons pe_str pa_nil))) (nomark _)) (pw_and1 (pt_cmpR (op_neTT hr.units) (pv 3) (pe_tup (pa_cons pe_str (pa_cons pe_str pa_nil))) (nomark _))))) (pss_one (ps_raiseFlt rfl T.flt hr (takes_of rfl rfl rfl rfl) (pa_cons pe_str pa_nil))) pss_nil)
      (pss_cons (ps_if (pt_cmpR op_eq (pv 0) pe_str (nomark _)) (pss_one (ps_ret (pe_cmpR op_lt (pv 1) (pv 2) (nomark _)))) pss_nil)
      (pss_cons (ps_if (pt_cmpR op_eq (pv 0) pe_str (nomark _)) (pss_one (ps_ret (pe_cmpR op_le (pv 1) (pv 2) (nomark _)))) pss_nil)
      (pss_cons (ps_if (pt_cmpR op_eq (pv 0) pe_str (nomark _)) (pss_one (ps_ret (pe_cmpR op_gt (pv 1) (pv 2) (nomark _)))) pss_nil)
      (pss_one (ps_ret (pe_cmpR op_ge (pv 1) (pv 2) (nomark _))))))))), ?_⟩
      refine ⟨_, rfl, v, x, rfl, rv.rd, _, rfl, u, y, rfl, ru.rd, by show 2 ≤ sizeLine; decide, fun t ht => ?_⟩
      have s1 : Same H (upd H t (.tup [.str (kindN x), .str (kindN y)])) := same_new ht _
      have q1 := upd_same (H := H) (a := t) (o := .tup [.str (kindN x), .str (kindN y)])
      refine kindsN rfl q1 (kinds_ok x y) (by kernel_rfl) fun H2 s2 => ?_
      have s3 := s1.trans s2
      cases c1 : isNN x y with
      | true =>
        refine iteE (congrArg not ((kk_nn x y).trans c1)) ?_
        refine iteF ?_
        cases x with
        | num i =>
          cases y with
          | num j =>
            cases rv
            cases ru
            rcases hg with rfl | rfl | rfl | rfl
            · exact ⟨_, rfl, rfl, _, rfl, iteT ⟨_, rfl, _, rfl, _, _, rfl, rfl, q _ _ s3 (Fresh.boo _)⟩⟩
            · exact ⟨_, rfl, rfl, _, rfl, iteF ⟨_, rfl, rfl, _, rfl, iteT ⟨_, rfl, _, rfl, _, _, rfl, rfl, q _ _ s3 (Fresh.boo _)⟩⟩⟩
            · exact ⟨_, rfl, rfl, _, rfl, iteF ⟨_, rfl, rfl, _, rfl, iteF ⟨_, rfl, rfl, _, rfl, iteT ⟨_, rfl, _, rfl, _, _, rfl, rfl, q _ _ s3 (Fresh.boo _)⟩⟩⟩⟩
            · exact ⟨_, rfl, rfl, _, rfl, iteF ⟨_, rfl, rfl, _, rfl, iteF ⟨_, rfl, rfl, _, rfl, iteF ⟨_, rfl, _, rfl, _, _, rfl, rfl, q _ _ s3 (Fresh.boo _)⟩⟩⟩⟩
          | _ => cases c1
        | _ => cases c1
      | false =>
        refine iteD (congrArg not ((kk_nn x y).trans c1)) ?_
        refine kindsN rfl (s2 _ _ q1) (kinds_ok x y) (by kernel_rfl) fun H3 s4 => ?_
        refine iteD (congrArg not ((kk_tt x y).trans c2)) ?_
        have em : mCmp g x y = .error "not to be compared" := by
          cases x <;> cases y <;> first | rfl | (simp [isNN] at c1; done) | (simp [isTT] at c2; done)
        rw [em] at q
        exact ⟨_, rfl, fun d hd => q d _ (same_snoc (s3.trans s4) hd _) upd_same⟩
def spOper (C : Addr) : Sp := fun vs H Q E => ∃ H0 g v u x y, vs = [.str g, v, u] ∧ (g ∈ signs ∧ isLogic g = false) ∧ Gr H0 H ∧ FreshL H0 H [v, u] [x, y] ∧ argsOk [x, y] ∧ AnsF C H0 H (mOperate g x y) Q E
theorem ok_operate (T : Txt P w K mg a) : FnOk P w K mg base (L2.CX P w) 60 a.operate a.operate_d ["sign", "first", "second"] (spOper a.flt) := by
  have G_add := ok_add (base := base) T
  have G_calculate := ok_calculate (base := base) T
  have G_compare := ok_compare (base := base) T
  have G_same := ok_same (base := base) T 25
  refine T.operate.F.okX sc_operate (fun vs H Q E h => ?_) (fun cdv A outer s H vs Q E hr h => ?_)
  · obtain ⟨H0, g, v, u, x, y, rfl, _⟩ := h
    rfl
  · obtain ⟨H0, g, v, u, x, y, rfl, ⟨hg, hl⟩, gr, fr, ok, q⟩ := h
    have ox := ok x (by simp)
    have oy := ok y (by simp)
    have rr := fr.at_
    cases rr with
    | cons rv r2 =>
    cases r2 with
    | cons ru _ =>
    refine ⟨_, (pss_cons (ps_if (pt_cmpR op_eq (pv 0) pe_str (nomark _)) (pss_one (ps_ret (pe_cd T.add G_add (hr.mono (by omega)) (passes_call (takes_of rfl rfl rfl rfl) (fun _ _ _ _ z => z)) (pa_cons (pv 1) (pa_cons (pv 2) pa_nil))))) pss_nil)
      (pss_cons (ps_if (pt_cmpR op_in_seq (pv 0) (pe_tup (pa_cons pe_str (pa_cons pe_str (pa_cons pe_str pa_nil)))) (by rfl)) (pss_one (ps_ret (pe_cd T.calculate G_calculate (hr.mono (by omega)) (passes_call (takes_of rfl rfl rfl rfl) (fun _ _ _ _ z => z)) (pa_cons (pv 0) (pa_cons (pv 1) (pa_cons (pv 2) pa_nil)))))) pss_nil)
      (pss_cons (ps_if (pt_cmpR op_eq (pv 0) pe_str (nomark _)) (pss_one (ps_ret (pe_cd T.same G_same (hr.mono (by omega)) pass0 (pa_cons (pv 1) (pa_cons (pv 2) pa_nil))))) pss_nil)
      (pss_cons (ps_if (pt_cmpR op_eq (pv 0) pe_str (nomark _)) (pss_one (ps_ret (pe_not (pe_cd T.same G_same (hr.mono (by omega)) pass0 (pa_cons (pv 1) (pa_cons (pv 2) pa_nil)))))) pss_nil)
      (pss_one (ps_ret (pe_cd T.compare G_compare (hr.mono (by omega)) (passes_call (takes_of rfl rfl rfl rfl) (fun _ _ _ _ z => z)) (pa_cons (pv 0) (pa_cons (pv 1) (pa_cons (pv 2) pa_nil)))))))))), ?_⟩
    have isin : ∀ {R : Bool → Hp → Prop} {σ : L2.St} (b : Bool), inV (.str g) [.str "-", .str "*", .str "/"] = b → (∀ H1, Same H H1 → R b H1) → σ[0]? = some (some (.str g)) → tTest (tOp (rIn K false) (tVar 0) (tTup (tCons (tC (.str "-")) (tCons (tC (.str "*")) (tCons (tC (.str "/")) tNil))))) σ H R := fun b e h hσ =>
      ⟨_, hσ, by show 3 ≤ sizeLine; decide, fun t ht => ⟨t, _, rfl, .inr (SqT.of upd_same), rfl, rfl, _, rfl, by rw [show (if false = true then !inV (.str g) [.str "-", .str "*", .str "/"] else inV (.str g) [.str "-", .str "*", .str "/"]) = b from e]; exact h _ (same_new ht _)⟩⟩
    have cmp : ∀ H1, Same H H1 → (g = "<" ∨ g = "<=" ∨ g = ">" ∨ g = ">=") → AnsF a.flt H0 H (mCmp g x y) Q E → spCmp a.flt [.str g, v, u] H1 Q E := fun H1 s1 hc q1 =>
      ⟨H0, g, v, u, x, y, rfl, hc, rv.same s1, ru.same s1, q1.later s1⟩
    have calc' : ∀ H1, Same H H1 → (g = "-" ∨ g = "*" ∨ g = "/") → AnsF a.flt H0 H (mCalc g x y) Q E → spCalc a.flt [.str g, v, u] H1 Q E := fun H1 s1 hc q1 =>
      ⟨H0, g, v, u, x, y, rfl, hc, rv.same s1, ru.same s1, ok, q1.later s1⟩
    have sam : ∀ H1 Q', Same H H1 → (∀ H2, Same H1 H2 → Q' (.bl (sameV x y)) H2) → spSame 25 [v, u] H1 Q' E0 := fun H1 Q' s1 h =>
      ⟨v, u, x, y, rfl, rv.same s1, (ru.same s1).rd, ox.1, oy.1, by omega, by omega, by omega, h⟩
    simp only [signs, List.mem_cons, List.not_mem_nil, or_false] at hg
    rcases hg with rfl | rfl | rfl | rfl | rfl | rfl | rfl | rfl | rfl | rfl | rfl | rfl
    · exact ⟨_, rfl, rfl, _, rfl, iteT ⟨_, rfl, _, rfl, H0, v, u, x, y, rfl, gr, fr, ok, q⟩⟩
    · exact ⟨_, rfl, rfl, _, rfl, iteF (isin true (by rfl) (fun H1 s1 => iteT ⟨_, rfl, _, rfl, _, rfl, calc' H1 s1 (.inl rfl) q⟩) rfl)⟩
    · exact ⟨_, rfl, rfl, _, rfl, iteF (isin true (by rfl) (fun H1 s1 => iteT ⟨_, rfl, _, rfl, _, rfl, calc' H1 s1 (.inr (.inl rfl)) q⟩) rfl)⟩
    · exact ⟨_, rfl, rfl, _, rfl, iteF (isin true (by rfl) (fun H1 s1 => iteT ⟨_, rfl, _, rfl, _, rfl, calc' H1 s1 (.inr (.inr rfl)) q⟩) rfl)⟩
    · exact ⟨_, rfl, rfl, _, rfl, iteF (isin false (by rfl) (fun H1 s1 => iteF ⟨_, rfl, rfl, _, rfl, iteT ⟨_, rfl, _, rfl, sam H1 _ s1 fun H2 s2 => q _ _ (s1.trans s2) (Fresh.boo _)⟩⟩) rfl)⟩
    · exact ⟨_, rfl, rfl, _, rfl, iteF (isin false (by rfl) (fun H1 s1 => iteF ⟨_, rfl, rfl, _, rfl, iteF ⟨_, rfl, rfl, _, rfl, iteT ⟨_, rfl, _, rfl, sam H1 (fun x H2 => ∃ c, x = .bl c ∧ Q (.bl !c) H2) s1 fun H2 s2 => ⟨_, rfl, q _ _ (s1.trans s2) (Fresh.boo _)⟩⟩⟩⟩) rfl)⟩
    · exact ⟨_, rfl, rfl, _, rfl, iteF (isin false (by rfl) (fun H1 s1 => iteF ⟨_, rfl, rfl, _, rfl, iteF ⟨_, rfl, rfl, _, rfl, iteF ⟨_, rfl, _, rfl, _, rfl, cmp H1 s1 (.inl rfl) q⟩⟩⟩) rfl)⟩
    · exact ⟨_, rfl, rfl, _, rfl, iteF (isin false (by rfl) (fun H1 s1 => iteF ⟨_, rfl, rfl, _, rfl, iteF ⟨_, rfl, rfl, _, rfl, iteF ⟨_, rfl, _, rfl, _, rfl, cmp H1 s1 (.inr (.inl rfl)) q⟩⟩⟩) rfl)⟩
    · exact ⟨_, rfl, rfl, _, rfl, iteF (isin false (by rfl) (fun H1 s1 => iteF ⟨_, rfl, rfl, _, rfl, iteF ⟨_, rfl, rfl, _, rfl, iteF ⟨_, rfl, _, rfl, _, rfl, cmp H1 s1 (.inr (.inr (.inl rfl))) q⟩⟩⟩) rfl)⟩
    · exact ⟨_, rfl, rfl, _, rfl, iteF (isin false (by rfl) (fun H1 s1 => iteF ⟨_, rfl, rfl, _, rfl, iteF ⟨_, rfl, rfl, _, rfl, iteF ⟨_, rfl, _, rfl, _, rfl, cmp H1 s1 (.inr (.inr (.inr rfl))) q⟩⟩⟩) rfl)⟩
    · cases hl
    · cases hl
end
end K19
/-! Bounds that evaluating keeps. -/
namespace K19
open PySem PySem.Spec PyProof.Rows L2
def good (x : Val) : Prop := okV x = true ∧ depthV x ≤ 20 ∧ sizeV x ≤ 2001
def goodL (l : List Val) : Prop := ∀ x ∈ l, good x
theorem goodL_nil : goodL [] := fun _ h => nomatch h
theorem goodL_cons {x : Val} {l : List Val} (h : good x) (g : goodL l) : goodL (x :: l) := fun y hy => by
  exact (List.mem_cons.mp hy).elim (fun e => e ▸ h) (g y)
theorem goodL_snoc {x : Val} {l : List Val} (g : goodL l) (h : good x) : goodL (l ++ [x]) := fun y hy => by
  rcases List.mem_append.mp hy with e | e
  · exact g y e
  · rw [List.mem_singleton.mp e]; exact h
theorem goodL_args {l : List Val} (h : goodL l) : argsOk l := fun x hx => ⟨(h x hx).1, (h x hx).2.1, by have := (h x hx).2.2; omega⟩
theorem goodL_okL {l : List Val} (h : goodL l) : okL l = true := by
  induction l with
  | nil => rfl
  | cons x r ih => simp only [okL, (h x (by simp)).1, ih fun y hy => h y (by simp [hy]), Bool.and_self]
theorem goodL_depth {l : List Val} (h : goodL l) : depthL l ≤ 20 := by
  induction l with
  | nil => exact Nat.zero_le _
  | cons x r ih =>
    have := (h x (by simp)).2.1
    have := ih fun y hy => h y (by simp [hy])
    simp only [depthL]
    omega
theorem goodL_size {l : List Val} (h : goodL l) : sizeL l ≤ 2001 * l.length := by
  induction l with
  | nil => exact Nat.zero_le _
  | cons x r ih =>
    have := (h x (by simp)).2.2
    have := ih fun y hy => h y (by simp [hy])
    simp only [sizeL, List.length_cons]
    omega
theorem good_nul : good .nul := ⟨rfl, by decide, by decide⟩
theorem good_boo (b : Bool) : good (.boo b) := ⟨rfl, by show 1 ≤ 20; decide, by show 1 ≤ 2001; decide⟩
theorem good_num {i : Int} (h : i.natAbs ≤ 1000000000000000000000000000000) : good (.num i) := ⟨by simp only [okV]; exact decide_eq_true h, by show 1 ≤ 20; decide, by show 1 ≤ 2001; decide⟩
theorem good_txt {s : Str} (h : s.length ≤ 2000) : good (.txt s) := ⟨rfl, by show 1 ≤ 20; decide, by simp only [sizeV]; omega⟩
theorem good_mNum {i : Int} {y : Val} (e : mNum i = .ok y) : good y := by
  unfold mNum at e
  split at e
  · cases e
  · cases e
    exact good_num (by omega)
theorem good_mTxt {s : Str} {y : Val} (e : mTxt s = .ok y) : good y := by
  unfold mTxt at e
  split at e
  · cases e
  · cases e
    exact good_txt (by omega)
theorem good_mMade {x y : Val} (e : mMade x = .ok y) (h : okV x = true) : good y := by
  unfold mMade at e
  split at e
  · cases e
  · split at e
    · cases e
    · split at e
      · cases e
      · cases e
        exact ⟨h, by omega, by omega⟩
theorem good_part {x y : Val} (h : good x) (m : y ∈ partsV x) : good y := by
  have d := depth_parts x
  have s := mem_size m
  exact ⟨okL_mem (ok_parts h.1) m, by have := depthL_mem m; have := h.2.1; omega, by have := h.2.2; omega⟩
theorem good_mAdd {x y z : Val} (hx : good x) (hy : good y) (e : mAdd x y = .ok z) : good z := by
  cases c1 : isNN x y with
  | true =>
    cases x with
    | num i => cases y with
      | num j => exact good_mNum e
      | _ => cases c1
    | _ => cases c1
  | false =>
    cases c2 : isLL x y with
    | true =>
      cases x with
      | lst l => cases y with
        | lst m =>
          refine good_mMade e ?_
          show okL (l ++ m) = true
          rw [okL_append, Bool.and_eq_true]
          exact ⟨hx.1, hy.1⟩
        | _ => cases c2
      | _ => cases c2
    | false =>
      have em : mAdd x y = (if isTxt x || isTxt y then (match textOf x, textOf y with | some s, some t => mTxt (s ++ t) | _, _ => .error "not a text") else .error "not to be added" : Res) := by
        cases x <;> cases y <;> first | rfl | (simp [isNN] at c1; done) | (simp [isLL] at c2; done)
      rw [em] at e
      split at e
      · split at e
        · exact good_mTxt e
        · cases e
      · cases e
theorem good_mCalc {g : Str} {x y z : Val} (e : mCalc g x y = .ok z) : good z := by
  unfold mCalc at e
  split at e
  · split at e
    · exact good_mNum e
    · split at e
      · exact good_mNum e
      · split at e
        · cases e
        · exact good_mNum e
  · cases e
theorem good_mCmp {g : Str} {x y z : Val} (e : mCmp g x y = .ok z) : good z := by
  unfold mCmp at e
  split at e
  · cases e
    exact good_boo _
  · cases e
    exact good_boo _
  · cases e
theorem good_mOperate {g : Str} {x y z : Val} (hx : good x) (hy : good y) (e : mOperate g x y = .ok z) : good z := by
  unfold mOperate at e
  split at e
  · exact good_mAdd hx hy e
  · split at e
    · exact good_mCalc e
    · split at e
      · cases e
        exact good_boo _
      · split at e
        · cases e
          exact good_boo _
        · exact good_mCmp e
theorem good_place {x p y : Val} (hx : good x) (e : place x p = .ok (some y)) : good y := by
  unfold place at e
  split at e
  · rename_i ks l s
    have e : getK ks l s = some y := by simpa using e
    exact good_part (x := .rcd ks l) hx (getK_mem e)
  · rename_i l i
    split at e
    · have e : l[i.toNat]? = some y := by simpa using e
      exact good_part (x := .lst l) hx (List.mem_of_getElem? e)
    · cases e
  · rename_i s i
    split at e
    · have e : (s.cps.toList[i.toNat]?).map (fun c => Val.txt ⟨#[c]⟩) = some y := by simpa using e
      cases q : s.cps.toList[i.toNat]? with
      | none =>
        rw [q] at e
        cases e
      | some c =>
        rw [q] at e
        cases e
        exact good_txt (by show 1 ≤ 2000; decide)
    · cases e
  · cases e
theorem good_mAt {x p y : Val} (hx : good x) (e : mAt x p = .ok y) : good y := by
  unfold mAt at e
  split at e
  · cases e
  · cases e
  · rename_i z q
    cases e
    exact good_place hx q
theorem good_mField {x y : Val} {n : Str} (hx : good x) (e : mField x n = .ok y) : good y := by
  unfold mField at e
  split at e
  · rename_i ks l
    split at e
    · rename_i z q
      cases e
      exact good_part (x := .rcd ks l) hx (getK_mem q)
    · cases e
  · cases e
theorem good_len (n : Nat) (h : n ≤ 3000) : good (.num n) := good_num (by
  rw [Int.natAbs_natCast]
  exact Nat.le_trans h (by decide))
theorem good_mCall {f : Fn} {l : List Val} {y : Val} (hl : goodL l) (ha : l.length = f.arity) (e : mCall f l = .ok y) : good y := by
  cases f with
  | length =>
    obtain ⟨x, rfl⟩ := one_of ha
    have h := hl x (by simp)
    cases x with
    | txt s =>
      cases e
      have := h.2.2
      simp only [sizeV] at this
      exact good_len _ (by omega)
    | lst l =>
      cases e
      have h1 := h.2.2
      have := sizeL_len l
      simp only [sizeV] at h1
      exact good_len _ (by omega)
    | rcd ks l =>
      cases e
      have := (ok_rcd h.1).2.2.1
      exact good_len _ (by omega)
    | _ => cases e
  | text =>
    obtain ⟨x, rfl⟩ := one_of ha
    have h := hl x (by simp)
    have e : (match textOf x with | some s => .ok (.txt s) | none => .error "not a text" : Res) = .ok y := e
    cases q : textOf x with
    | none =>
      rw [q] at e
      cases e
    | some s =>
      rw [q] at e
      cases e
      cases x with
      | txt t =>
        cases q
        exact h
      | num i =>
        cases q
        have := numT_len (num_le h.1)
        exact good_txt (by omega)
      | nul =>
        cases q
        exact good_txt (by decide)
      | boo b =>
        cases q
        cases b <;> exact good_txt (by decide)
      | _ => cases q
  | get =>
    obtain ⟨x, p, d, rfl⟩ := three_of ha
    have h := hl x (by simp)
    have hd := hl d (by simp)
    have e : mGet x p d = .ok y := e
    unfold mGet at e
    split at e
    · cases e
      exact hd
    · split at e
      · cases e
      · cases e
        exact hd
      · rename_i z q
        cases e
        exact good_place h q
  | keys =>
    obtain ⟨x, rfl⟩ := one_of ha
    cases x with
    | rcd ks l => exact good_mMade e (okL_txts _)
    | _ => cases e
  | min =>
    obtain ⟨x, z, rfl⟩ := two_of ha
    have h := hl x (by simp)
    have h2 := hl z (by simp)
    cases x with
    | num i =>
      cases z with
      | num j =>
        cases e
        have a1 := num_le h.1
        have a2 := num_le h2.1
        refine good_num ?_
        split <;> omega
      | _ => cases e
    | _ => cases z <;> cases e
  | max =>
    obtain ⟨x, z, rfl⟩ := two_of ha
    have h := hl x (by simp)
    have h2 := hl z (by simp)
    cases x with
    | num i =>
      cases z with
      | num j =>
        cases e
        have a1 := num_le h.1
        have a2 := num_le h2.1
        refine good_num ?_
        split <;> omega
      | _ => cases e
    | _ => cases z <;> cases e
theorem getK_idx {ks : List Str} : ∀ {l : List Val} {k : Str} {y : Val}, getK ks l k = some y → y ∈ l := by
  induction ks with
  | nil => intro l k y h; simp [getK] at h
  | cons j r ih =>
    intro l k y h
    cases l with
    | nil => simp [getK] at h
    | cons z l =>
      simp only [getK] at h
      split at h
      · cases h
        simp
      · exact List.mem_cons_of_mem _ (ih h)
theorem gath_good {f : Val → Except Str (Option Val)} {ms ys : List Val} (h : ∀ m ∈ ms, ∀ v, f m = .ok (some v) → good v) (e : gath f ms = .ok ys) : goodL ys ∧ ys.length ≤ ms.length := by
  induction ms generalizing ys with
  | nil =>
    cases e
    exact ⟨goodL_nil, Nat.le_refl _⟩
  | cons m r ih =>
    simp only [gath] at e
    split at e
    · cases e
    · rename_i o q
      split at e
      · cases e
      · rename_i vs q2
        have := ih (fun m' hm => h m' (List.mem_cons_of_mem _ hm)) q2
        cases o with
        | none =>
          cases e
          exact ⟨this.1, Nat.le_succ_of_le this.2⟩
        | some v =>
          cases e
          exact ⟨goodL_cons (h m (by simp) v q) this.1, Nat.succ_le_succ this.2⟩
theorem someR_some {r : Res} {v : Val} (h : someR r = .ok (some v)) : r = .ok v := by
  cases r with
  | ok x =>
    cases h
    rfl
  | error m => cases h
theorem mBool_ok {r : Res} {b : Bool} (h : mBool r = .ok b) : r = .ok (.boo b) := by
  cases r with
  | error m => cases h
  | ok x =>
    cases x with
    | boo c =>
      cases h
      rfl
    | _ => cases h
section
variable {o : Int} (ho : o.natAbs ≤ 1000)
include ho
mutual
theorem good_evE : ∀ (ex : Ex) (ks : List Str) (l : List Val) (y : Val), wfE ex ks = true → goodL l → evE o ex ks l = .ok y → good y
  | .nul, _, _, y, _, _, e => by
    cases e
    exact good_nul
  | .boo b, _, _, y, _, _, e => by
    cases e
    exact good_boo b
  | .num i, _, _, y, w, _, e => by
    cases e
    exact good_num (by simpa [wfE] using w)
  | .txt s, _, _, y, w, _, e => by
    cases e
    have : s.length ≤ 100 := by simpa [wfE] using w
    exact good_txt (by omega)
  | .name s, ks, l, y, _, g, e => by
    simp only [evE] at e
    split at e
    · rename_i v q
      cases e
      exact g _ (getK_idx q)
    · cases e
  | .bin g a b, ks, l, y, w, gl, e => by
    simp only [wfE, Bool.and_eq_true] at w
    simp only [evE] at e
    split at e
    · cases e
    · rename_i x q
      have hx := good_evE a ks l x w.1.2 gl q
      split at e
      · split at e
        · cases e
        · split at e
          · cases e
            exact hx
          · split at e
            · cases e
            · cases e
              exact good_boo _
      · split at e
        · cases e
        · rename_i z q2
          exact good_mOperate hx (good_evE b ks l z w.2 gl q2) e
  | .cho c a b, ks, l, y, w, gl, e => by
    simp only [wfE, Bool.and_eq_true] at w
    simp only [evE] at e
    split at e
    · cases e
    · exact good_evE a ks l y w.1.2 gl e
    · exact good_evE b ks l y w.2 gl e
  | .fld f n, ks, l, y, w, gl, e => by
    simp only [wfE, Bool.and_eq_true] at w
    simp only [evE] at e
    split at e
    · cases e
    · rename_i x q
      exact good_mField (good_evE f ks l x w.1 gl q) e
  | .itm f i, ks, l, y, w, gl, e => by
    simp only [wfE, Bool.and_eq_true] at w
    simp only [evE] at e
    split at e
    · cases e
    · rename_i x q
      split at e
      · cases e
      · exact good_mAt (good_evE f ks l x w.1 gl q) e
  | .neg f, ks, l, y, w, gl, e => by
    simp only [evE] at e
    split at e
    · cases e
    · exact good_mNum e
    · cases e
  | .nt f, ks, l, y, w, gl, e => by
    simp only [evE] at e
    split at e
    · cases e
    · cases e
      exact good_boo _
  | .fn f es, ks, l, y, w, gl, e => by
    simp only [wfE, Bool.and_eq_true, decide_eq_true_eq] at w
    simp only [evE] at e
    split at e
    · cases e
    · rename_i xs q
      have h := good_evEs es ks l xs w.2 gl q
      exact good_mCall h.1 (h.2.trans w.1) e
  | .lst es, ks, l, y, w, gl, e => by
    simp only [wfE, Bool.and_eq_true] at w
    simp only [evE] at e
    split at e
    · cases e
    · rename_i xs q
      have h := good_evEs es ks l xs w.2 gl q
      exact good_mMade e (goodL_okL h.1)
  | .rcd js es, ks, l, y, w, gl, e => by
    simp only [wfE, Bool.and_eq_true, decide_eq_true_eq] at w
    simp only [evE] at e
    split at e
    · cases e
    · rename_i xs q
      have h := good_evEs es ks l xs w.2 gl q
      refine good_mMade e ?_
      simp only [okV, Bool.and_eq_true, decide_eq_true_eq]
      exact ⟨⟨⟨⟨w.1.1.1.1.1, by rw [h.2]; exact w.1.1.1.1.2⟩, by omega⟩, w.1.1.2⟩, goodL_okL h.1⟩
  | .act n es, ks, l, y, w, gl, e => by
    simp only [wfE, Bool.and_eq_true] at w
    simp only [evE] at e
    split at e
    · cases e
    · rename_i xs q
      have h := good_evEs es ks l xs w.2 gl q
      refine good_mMade e ?_
      simp only [okV, Bool.and_eq_true, decide_eq_true_eq]
      exact ⟨goodL_okL h.1, ho⟩
  | .gat f x r, ks, l, y, w, gl, e => by
    simp only [wfE, Bool.and_eq_true] at w
    simp only [evE] at e
    split at e
    · cases e
    · rename_i ms q
      have hm := good_evE r ks l (.lst ms) w.2 gl q
      split at e
      · cases e
      · rename_i ys q2
        have h := gath_good (fun m hm' v hv => good_evE f (ks ++ [x]) (l ++ [m]) v w.1.2 (goodL_snoc gl (good_part hm hm')) (someR_some hv)) q2
        exact good_mMade e (goodL_okL h.1)
    · cases e
  | .gatIf f x r c, ks, l, y, w, gl, e => by
    simp only [wfE, Bool.and_eq_true] at w
    simp only [evE] at e
    split at e
    · cases e
    · rename_i ms q
      have hm := good_evE r ks l (.lst ms) w.1.2 gl q
      split at e
      · cases e
      · rename_i ys q2
        have h := gath_good (fun m hm' v hv => by
          split at hv
          · cases hv
          · exact good_evE f (ks ++ [x]) (l ++ [m]) v w.1.1.2 (goodL_snoc gl (good_part hm hm')) (someR_some hv)
          · cases hv) q2
        exact good_mMade e (goodL_okL h.1)
    · cases e
theorem good_evEs : ∀ (es : List Ex) (ks : List Str) (l : List Val) (ys : List Val), wfEs es ks = true → goodL l → evEs o es ks l = .ok ys → goodL ys ∧ ys.length = es.length
  | [], _, _, ys, _, _, e => by
    cases e
    exact ⟨goodL_nil, rfl⟩
  | a :: r, ks, l, ys, w, gl, e => by
    simp only [wfEs, Bool.and_eq_true] at w
    simp only [evEs] at e
    split at e
    · cases e
    · rename_i x q
      split at e
      · cases e
      · rename_i xs q2
        cases e
        have h := good_evEs r ks l xs w.2 gl q2
        exact ⟨goodL_cons (good_evE a ks l x w.1 gl q) h.1, by simp [h.2]⟩
end
end
/-- one answer after the other -/
def seqR : List Res → Except Str (List Val)
  | [] => .ok []
  | .error m :: _ => .error m
  | .ok x :: r => match seqR r with
    | .error m => .error m
    | .ok xs => .ok (x :: xs)
theorem evEs_seq (o : Int) (ks : List Str) (l : List Val) : ∀ es : List Ex, evEs o es ks l = seqR (es.map fun e => evE o e ks l)
  | [] => by simp [evEs, seqR]
  | e :: r => by
    simp only [evEs, List.map_cons]
    cases q : evE o e ks l with
    | error m => rfl
    | ok x =>
      simp only [seqR]
      rw [evEs_seq o ks l r] <;> rfl
theorem seqR_ok : ∀ (l : List Val), seqR (l.map .ok) = .ok l
  | [] => rfl
  | x :: r => by simp only [List.map_cons, seqR, seqR_ok r]
theorem seqR_err (m : Str) (t : List Res) : ∀ (l : List Val), seqR (l.map .ok ++ .error m :: t) = .error m
  | [] => rfl
  | x :: r => by simp only [List.map_cons, List.cons_append, seqR, seqR_err m t r]
end K19
/-! Expressions on the heap. -/
namespace K19
open PySem PySem.Spec PyProof.Rows L2
mutual
inductive RepE (R : Addr → HO → Prop) : V → Ex → Prop
  | nul {a : Addr} : R a (.tup [.str "null"]) → RepE R (.ref a) .nul
  | boo {a : Addr} (b : Bool) : R a (.tup [.str (if b = true then "true" else "false")]) → RepE R (.ref a) (.boo b)
  | num {a : Addr} {i : Int} : R a (.tup [.str "number", .int i]) → RepE R (.ref a) (.num i)
  | txt {a : Addr} {s : Str} : R a (.tup [.str "text", .str s]) → RepE R (.ref a) (.txt s)
  | name {a : Addr} {s : Str} : R a (.tup [.str "name", .str s]) → RepE R (.ref a) (.name s)
  | bin {a : Addr} {g : Str} {v u : V} {x y : Ex} : R a (.tup [.str "binary", .str g, v, u]) → RepE R v x → RepE R u y → RepE R (.ref a) (.bin g x y)
  | cho {a : Addr} {t v u : V} {c x y : Ex} : R a (.tup [.str "choice", t, v, u]) → RepE R t c → RepE R v x → RepE R u y → RepE R (.ref a) (.cho c x y)
  | fld {a : Addr} {n : Str} {v : V} {x : Ex} : R a (.tup [.str "field", v, .str n]) → RepE R v x → RepE R (.ref a) (.fld x n)
  | itm {a : Addr} {v u : V} {x y : Ex} : R a (.tup [.str "item", v, u]) → RepE R v x → RepE R u y → RepE R (.ref a) (.itm x y)
  | neg {a : Addr} {v : V} {x : Ex} : R a (.tup [.str "minus", v]) → RepE R v x → RepE R (.ref a) (.neg x)
  | nt {a : Addr} {v : V} {x : Ex} : R a (.tup [.str "not", v]) → RepE R v x → RepE R (.ref a) (.nt x)
  | fn {a b : Addr} {f : Fn} {xs : List V} {es : List Ex} : R a (.tup [.str "function", .str f.name, .ref b]) → R b (.lst xs) → RepEs R xs es → RepE R (.ref a) (.fn f es)
  | lst {a b : Addr} {xs : List V} {es : List Ex} : R a (.tup [.str "list", .ref b]) → R b (.lst xs) → RepEs R xs es → RepE R (.ref a) (.lst es)
  | rcd {a b : Addr} {ps : List V} {ks : List Str} {es : List Ex} : R a (.tup [.str "record", .ref b]) → R b (.lst ps) → RepP R ps ks es → RepE R (.ref a) (.rcd ks es)
  | act {a b : Addr} {n : Str} {xs : List V} {es : List Ex} : R a (.tup [.str "act", .str n, .ref b]) → R b (.lst xs) → RepEs R xs es → RepE R (.ref a) (.act n es)
  | gat {a : Addr} {v u : V} {x : Ex} {s : Str} {y : Ex} : R a (.tup [.str "gather", v, .str s, u, .non]) → RepE R v x → RepE R u y → RepE R (.ref a) (.gat x s y)
  | gatIf {a : Addr} {v u t : V} {x : Ex} {s : Str} {y c : Ex} : R a (.tup [.str "gather", v, .str s, u, t]) → RepE R v x → RepE R u y → RepE R t c → RepE R (.ref a) (.gatIf x s y c)
inductive RepEs (R : Addr → HO → Prop) : List V → List Ex → Prop
  | nil : RepEs R [] []
  | cons {v : V} {x : Ex} {xs : List V} {l : List Ex} : RepE R v x → RepEs R xs l → RepEs R (v :: xs) (x :: l)
inductive RepP (R : Addr → HO → Prop) : List V → List Str → List Ex → Prop
  | nil : RepP R [] [] []
  | cons {p : Addr} {k : Str} {v : V} {x : Ex} {ps : List V} {ks : List Str} {l : List Ex} : R p (.tup [.str k, v]) → RepE R v x → RepP R ps ks l → RepP R (.ref p :: ps) (k :: ks) (x :: l)
end
section
variable {R R' : Addr → HO → Prop}
mutual
theorem RepE.mono (f : ∀ a u, R a u → R' a u) : ∀ {v : V} {x : Ex}, RepE R v x → RepE R' v x
  | _, _, .nul h => .nul (f _ _ h)
  | _, _, .boo b h => .boo b (f _ _ h)
  | _, _, .num h => .num (f _ _ h)
  | _, _, .txt h => .txt (f _ _ h)
  | _, _, .name h => .name (f _ _ h)
  | _, _, .bin h p q => .bin (f _ _ h) (p.mono f) (q.mono f)
  | _, _, .cho h c p q => .cho (f _ _ h) (c.mono f) (p.mono f) (q.mono f)
  | _, _, .fld h p => .fld (f _ _ h) (p.mono f)
  | _, _, .itm h p q => .itm (f _ _ h) (p.mono f) (q.mono f)
  | _, _, .neg h p => .neg (f _ _ h) (p.mono f)
  | _, _, .nt h p => .nt (f _ _ h) (p.mono f)
  | _, _, .fn h g r => .fn (f _ _ h) (f _ _ g) (r.mono f)
  | _, _, .lst h g r => .lst (f _ _ h) (f _ _ g) (r.mono f)
  | _, _, .rcd h g r => .rcd (f _ _ h) (f _ _ g) (r.mono f)
  | _, _, .act h g r => .act (f _ _ h) (f _ _ g) (r.mono f)
  | _, _, .gat h p q => .gat (f _ _ h) (p.mono f) (q.mono f)
  | _, _, .gatIf h p q c => .gatIf (f _ _ h) (p.mono f) (q.mono f) (c.mono f)
theorem RepEs.mono (f : ∀ a u, R a u → R' a u) : ∀ {v : List V} {x : List Ex}, RepEs R v x → RepEs R' v x
  | _, _, .nil => .nil
  | _, _, .cons h r => .cons (h.mono f) (r.mono f)
theorem RepP.mono (f : ∀ a u, R a u → R' a u) : ∀ {v : List V} {k : List Str} {x : List Ex}, RepP R v k x → RepP R' v k x
  | _, _, _, .nil => .nil
  | _, _, _, .cons e h r => .cons (f _ _ e) (h.mono f) (r.mono f)
end
theorem RepEs.length : ∀ {v : List V} {x : List Ex}, RepEs R v x → v.length = x.length
  | _, _, .nil => rfl
  | _, _, .cons _ rest => by simp [rest.length]
theorem RepP.length : ∀ {v : List V} {k : List Str} {x : List Ex}, RepP R v k x → v.length = x.length ∧ k.length = x.length
  | _, _, _, .nil => ⟨rfl, rfl⟩
  | _, _, _, .cons _ _ r => by simp [r.length.1, r.length.2]
theorem RepEs.get : ∀ {xs : List V} {l : List Ex} {i : Nat} {v : V}, RepEs R xs l → xs[i]? = some v → ∃ x, l[i]? = some x ∧ RepE R v x
  | _, _, _, _, .nil, none_ => by simp at none_
  | _, _, 0, _, .cons h _, e => by simp at e; subst e; exact ⟨_, rfl, h⟩
  | _, _, i + 1, _, .cons _ r, e => by
    obtain ⟨x, h1, h2⟩ := r.get (i := i) (by simpa using e)
    exact ⟨x, (by simpa using h1), h2⟩
theorem RepP.get : ∀ {xs : List V} {ks : List Str} {l : List Ex} {i : Nat} {v : V}, RepP R xs ks l → xs[i]? = some v → ∃ p k u x, v = .ref p ∧ R p (.tup [.str k, u]) ∧ ks[i]? = some k ∧ l[i]? = some x ∧ RepE R u x
  | _, _, _, _, _, .nil, e => by simp at e
  | _, _, _, 0, _, .cons g h _, e => by simp at e; subst e; exact ⟨_, _, _, _, rfl, g, rfl, rfl, h⟩
  | _, _, _, i + 1, _, .cons _ _ r, e => by
    obtain ⟨p, k, u, x, h1, h2, h3, h4, h5⟩ := r.get (i := i) (by simpa using e)
    exact ⟨p, k, u, x, h1, h2, by simpa using h3, by simpa using h4, h5⟩
end
theorem RepE.same {H H' : Hp} (s : Same H H') {v : V} {x : Ex} (h : RepE (At H) v x) : RepE (At H') v x := h.mono fun a u e => s a u e
theorem RepEs.same {H H' : Hp} (s : Same H H') {v : List V} {x : List Ex} (h : RepEs (At H) v x) : RepEs (At H') v x := h.mono fun a u e => s a u e
theorem RepP.same {H H' : Hp} (s : Same H H') {v : List V} {k : List Str} {x : List Ex} (h : RepP (At H) v k x) : RepP (At H') v k x := h.mono fun a u e => s a u e
theorem depEs_mem {l : List Ex} {x : Ex} (h : x ∈ l) : depE x ≤ depEs l := by
  induction l with
  | nil => cases h
  | cons y r ih =>
    simp only [depEs]
    rcases (List.mem_cons.mp h : _ ∨ _) with e | e
    · subst e
      omega
    · have := ih e
      omega
theorem wfEs_mem {l : List Ex} {ns : List Str} {x : Ex} (h : wfEs l ns = true) (m : x ∈ l) : wfE x ns = true := by
  induction l with
  | nil => cases m
  | cons y r ih =>
    simp only [wfEs, Bool.and_eq_true] at h
    exact (List.mem_cons.mp m).elim (fun e => e ▸ h.1) (ih h.2)
theorem depE_pos : ∀ x : Ex, 1 ≤ depE x
  | .nul | .boo _ | .num _ | .txt _ | .name _ => by simp [depE]
  | .bin _ _ _ | .cho _ _ _ | .fld _ _ | .itm _ _ | .neg _ | .nt _ | .fn _ _ | .lst _ | .rcd _ _ | .act _ _ | .gat _ _ _ | .gatIf _ _ _ _ => by simp [depE]
/-- an environment: names and values -/
structure EnvOk (H : Hp) (d : Addr) (ks : List Str) (l : List Val) (o : Int) (n : Nat) : Prop where
  ex : ∃ kvs, H d = some (.dK kvs) ∧ kvs.map (·.1) = ks.map Sum.inr ∧ RepL (At H) (kvs.map (·.2)) l
  nd : ks.Nodup
  len : ks.length + n ≤ 200
  ob : o.natAbs ≤ 1000
  gl : goodL l
theorem EnvOk.same {H H' : Hp} {d : Addr} {ks : List Str} {l : List Val} {o : Int} {n : Nat} (h : EnvOk H d ks l o n) (s : Same H H') : EnvOk H' d ks l o n :=
  ⟨let ⟨kvs, a, b, c⟩ := h.ex; ⟨kvs, s _ _ a, b, c.same s⟩, h.nd, h.len, h.ob, h.gl⟩
theorem EnvOk.down {H : Hp} {d : Addr} {ks : List Str} {l : List Val} {o : Int} {n m : Nat} (h : EnvOk H d ks l o n) (s : m ≤ n) : EnvOk H d ks l o m :=
  ⟨h.ex, h.nd, by have := h.len; omega, h.ob, h.gl⟩
/-- a comprehension each of whose items is a value of its own, or raises -/
theorem lc_res {J : It} {n : Nat} {G : Hp → Prop} {Y : Nat → V → Prop} (w : Walk J n G (fun i H x H' => H' = H ∧ Y i x)) {te : TE} {vs : List Nat} {j : Nat} {σ : L2.St} {H : Hp} {D : Addr} {Qd : Hp → Prop} {rs : List Res} {B : Str → Prop}
    (hD : H D = none) (hl : rs.length = n) (hn : n ≤ 9000000) (hG : ∀ H1, Same H H1 → G H1) (hw : ∀ y, wipe ((wipe σ vs).set j (some y)) vs = wipe σ vs)
    (hs : ∀ i y r H1 (Q' : VK), rs[i]? = some r → Same H H1 → Y i y → (∀ x, r = .ok x → ∀ z H3, Same H1 H3 → Fresh H1 H3 z x → Q' z H3) → (∀ m, r = .error m → B m) → te ((wipe σ vs).set j (some y)) H1 Q')
    (hB : ∀ m, seqR rs = .error m → B m)
    (hd : ∀ H1 l, seqR rs = .ok l → Same H H1 → Fresh H H1 (.ref D) (.lst l) → Qd H1) :
    ∃ W : Nat → Nat → Hp → Prop, (∃ m, W 0 m (upd H D (.lst []))) ∧ ∀ i m H, W i m H →
      (J.stop i H ∧ Qd H) ∨ (J.go i H ∧ ∃ Nx : Hp → Prop, (∀ H', Nx H' → ∃ m', m' < m ∧ W (i + 1) m' H') ∧ ∀ x H', J.yld i H x H' → gName j x (wipe σ vs) H' fun σ2 H2 => wipe σ2 vs = wipe σ vs ∧ tYes σ2 H2 fun b H3 =>
        if b = true then te σ2 H3 fun z H4 => ∃ xs, H4 D = some (.lst xs) ∧ xs.length < sizeLine ∧ Nx (upd H4 D (.lst (xs ++ [z]))) else Nx H3) := by
  have hDn : (upd H D (.lst [])) D ≠ none := by rw [upd_same]; simp
  refine lc_it w (fun i H1 => Same H H1 ∧ Gr (upd H D (.lst [])) H1 ∧ ∃ acc l, H1 D = some (.lst acc) ∧ acc.length = i ∧ rs.take i = l.map .ok ∧ FreshL (upd H D (.lst [])) H1 acc l) ⟨same_new hD _, fun _ h => h, [], [], upd_same, rfl, rfl, FreshL.nil⟩ (fun i H1 _ z => hG H1 z.1) ?_ ?_
  · rintro i y H1 H2 hi ⟨s1, g1, acc, l, e1, el, et, f1⟩ ⟨rfl, hy⟩
    obtain ⟨r, hr⟩ := getD_some (l := rs) (by omega : i < rs.length)
    refine ⟨hw y, ?_⟩
    simp only [tYes, if_true]
    refine hs i y r H2 _ hr s1 hy (fun x ex z H3 s3 f3 => ?_) (fun m em => ?_)
    · refine ⟨acc, s3 _ _ e1, lt_line (by omega), same_mut (s1.trans s3) hD _, (g1.trans (Gr.of s3)).upd _ _, acc ++ [z], l ++ [x], upd_same, by simp [el], ?_, ?_⟩
      · rw [take_succ_get hr, et, ex, List.map_append]
        rfl
      · exact (f1.snoc g1 f3 s3).upd hDn
    · refine hB m ?_
      have : rs = l.map .ok ++ .error m :: rs.drop (i + 1) := by
        rw [← et, ← em]
        obtain ⟨h, e⟩ := List.getElem?_eq_some_iff.mp hr
        rw [← e]
        exact (List.take_append_drop i rs).symm.trans (by rw [List.drop_eq_getElem_cons h])
      rw [this]
      exact seqR_err m _ l
  · rintro H1 ⟨s1, g1, acc, l, e1, el, et, f1⟩
    rw [← hl, List.take_length] at et
    exact hd H1 l (by rw [et]; exact seqR_ok l) s1 (f1.lst hD e1)
end K19
namespace K19
open PySem PySem.Spec PyProof.Rows L2
theorem sc_evaluate_all : FnScope nm_evaluate_all ["expressions", "environment", "owner"] (defScope s_evaluate_all) := ⟨rfl, rfl, rfl, by decide +kernel, rfl, by decide +kernel, by decide +kernel⟩
theorem sc_evaluate_binary : FnScope nm_evaluate_binary ["expression", "environment", "owner"] (defScope s_evaluate_binary) := ⟨rfl, rfl, rfl, by decide +kernel, rfl, by decide +kernel, by decide +kernel⟩
theorem sc_evaluate_choice : FnScope nm_evaluate_choice ["expression", "environment", "owner"] (defScope s_evaluate_choice) := ⟨rfl, rfl, rfl, by decide +kernel, rfl, by decide +kernel, by decide +kernel⟩
theorem sc_evaluate_gathering : FnScope nm_evaluate_gathering ["expression", "environment", "owner"] (defScope s_evaluate_gathering) := ⟨rfl, rfl, rfl, by decide +kernel, rfl, by decide +kernel, by decide +kernel⟩
theorem sc_evaluate_made : FnScope nm_evaluate_made ["expression", "environment", "owner"] (defScope s_evaluate_made) := ⟨rfl, rfl, rfl, by decide +kernel, rfl, by decide +kernel, by decide +kernel⟩
theorem sc_evaluate_part : FnScope nm_evaluate_part ["expression", "environment", "owner"] (defScope s_evaluate_part) := ⟨rfl, rfl, rfl, by decide +kernel, rfl, by decide +kernel, by decide +kernel⟩
theorem sc_evaluate : FnScope nm_evaluate ["expression", "environment", "owner"] (defScope s_evaluate) := ⟨rfl, rfl, rfl, by decide +kernel, rfl, by decide +kernel, by decide +kernel⟩

section
variable {P : Program} {w : World} {K : PySem.W.Frag} {mg : Str → Option Value} {base : Heap} {a : Ads}
def spEv (C : Addr) (n : Nat) : Sp := fun vs H Q E => ∃ e ex d ks l o, vs = [e, .ref d, .int o] ∧ RepE (At H) e ex ∧ EnvOk H d ks l o n ∧ wfE ex ks = true ∧ depE ex ≤ n ∧ AnsF C H H (evE o ex ks l) Q E
def spEvs (C : Addr) (n : Nat) : Sp := fun vs H Q E => ∃ b xs es d ks l o, vs = [.ref b, .ref d, .int o] ∧ H b = some (.lst xs) ∧ RepEs (At H) xs es ∧ EnvOk H d ks l o n ∧ wfEs es ks = true ∧ depEs es ≤ n ∧ es.length ≤ 1000 ∧
  AnsI C H (evEs o es ks l) (fun ys => ∀ D H', Same H H' → Fresh H H' (.ref D) (.lst ys) → Q (.ref D) H') E
theorem ok_evaluate_all (T : Txt P w K mg a) {n k : Nat} (hk : 10 ≤ k) (G_evaluate : FnOk P w K mg base (L2.CX P w) k a.evaluate a.evaluate_d ["expression", "environment", "owner"] (spEv a.flt n)) : FnOk P w K mg base (L2.CX P w) (k + 1) a.evaluate_all a.evaluate_all_d ["expressions", "environment", "owner"] (spEvs a.flt n) := by
  refine T.evaluate_all.F.okX sc_evaluate_all (fun vs H Q E h => ?_) (fun cdv A outer s H vs Q E hr h => ?_)
  · obtain ⟨b, xs, es, d, ks, l, o, rfl, _⟩ := h
    rfl
  · obtain ⟨b, xs, es, d, ks, l, o, rfl, hb, re, env, wf, dp, hl, q⟩ := h
    refine ⟨_, (pss_one (ps_ret (pe_lcX (own := [("expression", 3)]) (g := gName 3) rfl sc_evaluate_all.nd (pi_list (pv 0)) (blkOk_by (own := [("expression", 3)]) (N := nm_evaluate_all) (sc := defScope s_evaluate_all) (by decide +kernel)) (fun _ _ _ _ _ => pg_name (i := 3) sc_evaluate_all.nd rfl (Or.inl rfl)) (fun _ _ _ _ _ => pts_nil) (fun _ _ _ _ _ hb => (pe_cd T.evaluate G_evaluate (hr.mono (by omega)) (passes_blk rfl rfl (takes_of rfl rfl rfl rfl) (fun _ _ _ _ z => z) hb rfl) (pa_cons (pv 3) (pa_cons (pv 1) (pa_cons (pv 2) pa_nil)))))))), ?_⟩
    refine ⟨_, rfl, b, rfl, ⟨xs, SqL.of hb⟩, fun D hD => ?_⟩
    rw [evEs_seq] at q
    refine lc_res (rs := es.map fun e => evE o e ks l) (B := fun m => Bad a.flt H E m) walk_list hD (by rw [List.length_map, re.length]) (by rw [re.length]; omega) (fun H1 s => s.seq (SqL.of hb)) (fun _ => rfl) ?_ ?_ ?_
    · intro i y r H1 Q' hr' s1 hy ok bad
      obtain ⟨x, hx, rx⟩ := re.get hy
      have mx := List.mem_of_getElem? hx
      rw [List.getElem?_map, hx] at hr'
      have hr' : evE o x ks l = r := Option.some.inj hr'
      refine ⟨_, rfl, _, rfl, _, rfl, y, x, d, ks, l, o, rfl, rx.same s1, env.same s1, wfEs_mem wf mx, Nat.le_trans (depEs_mem mx) dp, ?_⟩
      rw [hr']
      cases r with
      | ok z => exact fun v H3 s3 f3 => ok z rfl v H3 s3 f3
      | error m => exact Bad.later (bad m rfl) s1
    · intro m em
      rw [em] at q
      exact q
    · intro H1 ys ey s1 f1
      rw [ey] at q
      exact q D H1 s1 f1
def spBin (C : Addr) (n : Nat) : Sp := fun vs H Q E => ∃ p g v u x y d ks l o, vs = [.ref p, .ref d, .int o] ∧ H p = some (.tup [.str "binary", .str g, v, u]) ∧ RepE (At H) v x ∧ RepE (At H) u y ∧ EnvOk H d ks l o n ∧ wfE (.bin g x y) ks = true ∧ depE x ≤ n ∧ depE y ≤ n ∧ AnsF C H H (evE o (.bin g x y) ks l) Q E
theorem ok_evaluate_binary (T : Txt P w K mg a) {n k : Nat} (hk : 60 ≤ k) (G_evaluate : FnOk P w K mg base (L2.CX P w) k a.evaluate a.evaluate_d ["expression", "environment", "owner"] (spEv a.flt n)) : FnOk P w K mg base (L2.CX P w) (k + 1) a.evaluate_binary a.evaluate_binary_d ["expression", "environment", "owner"] (spBin a.flt n) := by
  have G_need_boolean := ok_need_boolean (base := base) T
  have G_operate := ok_operate (base := base) T
  refine T.evaluate_binary.F.okX sc_evaluate_binary (fun vs H Q E h => ?_) (fun cdv A outer s H vs Q E hr h => ?_)
  · obtain ⟨p, g, v, u, x, y, d, ks, l, o, rfl, _⟩ := h
    rfl
  · obtain ⟨p, g, v, u, x, y, d, ks, l, o, rfl, hp, rx, ry, env, wf, dx, dy, q⟩ := h
    simp only [wfE, Bool.and_eq_true, decide_eq_true_eq] at wf
    refine ⟨_, (pss_cons (ps_set (i := 3) sc_evaluate_binary.nd rfl (Or.inl rfl) (pe_ix ix_tup (pv 0) pe_int (fun _ _ => rfl)))
      (pss_cons (ps_set (i := 4) sc_evaluate_binary.nd rfl (Or.inl rfl) (pe_cd T.evaluate G_evaluate (hr.mono (by omega)) (passes_call (takes_of rfl rfl rfl rfl) (fun _ _ _ _ z => z)) (pa_cons (pe_ix ix_tup (pv 0) pe_int (fun _ _ => rfl)) (pa_cons (pv 1) (pa_cons (pv 2) pa_nil)))))
      (pss_cons (ps_if (PW.pt (pw_or (pt_cmpR op_eq (pv 3) pe_str (nomark _)) (pw_or1 (pt_cmpR op_eq (pv 3) pe_str (nomark _))))) (pss_cons (ps_if (pt_cmpR op_eq (pe_cd T.need_boolean G_need_boolean (hr.mono (by omega)) (passes_call (takes_of rfl rfl rfl rfl) (fun _ _ _ _ z => z)) (pa_cons (pv 4) pa_nil)) (pe_cmpR op_eq (pv 3) pe_str (nomark _)) (nomark _)) (pss_one (ps_ret (pv 4))) pss_nil)
      (pss_one (ps_ret (pe_cd T.need_boolean G_need_boolean (hr.mono (by omega)) (passes_call (takes_of rfl rfl rfl rfl) (fun _ _ _ _ z => z)) (pa_cons (pe_cd T.evaluate G_evaluate (hr.mono (by omega)) (passes_call (takes_of rfl rfl rfl rfl) (fun _ _ _ _ z => z)) (pa_cons (pe_ix ix_tup (pv 0) pe_int (fun _ _ => rfl)) (pa_cons (pv 1) (pa_cons (pv 2) pa_nil)))) pa_nil))))) pss_nil)
      (pss_one (ps_ret (pe_cd T.operate G_operate (hr.mono (by omega)) (passes_call (takes_of rfl rfl rfl rfl) (fun _ _ _ _ z => z)) (pa_cons (pv 3) (pa_cons (pv 4) (pa_cons (pe_cd T.evaluate G_evaluate (hr.mono (by omega)) (passes_call (takes_of rfl rfl rfl rfl) (fun _ _ _ _ z => z)) (pa_cons (pe_ix ix_tup (pv 0) pe_int (fun _ _ => rfl)) (pa_cons (pv 1) (pa_cons (pv 2) pa_nil)))) pa_nil))))))))), ?_⟩
    refine ⟨_, rfl, p, _, 1, _, rfl, rfl, SqT.of hp, rfl, ?_⟩
    refine ⟨_, rfl, p, _, 2, _, rfl, rfl, SqT.of hp, rfl, _, rfl, _, rfl, v, x, d, ks, l, o, rfl, rx, env, wf.1.2, dx, ?_⟩
    simp only [evE] at q
    cases ex : evE o x ks l with
    | error m =>
      rw [ex] at q
      exact q
    | ok z =>
      rw [ex] at q
      dsimp only at q
      have gz := good_evE env.ob x ks l z wf.1.2 env.gl ex
      intro r H1 s1 f1
      have second : ∀ Q', (∀ z2 r2 H2, evE o y ks l = .ok z2 → Same H1 H2 → Fresh H1 H2 r2 z2 → Q' r2 H2) → (∀ m, evE o y ks l = .error m → Bad a.flt H E m) → spEv a.flt n [u, .ref d, .int o] H1 Q' E := by
        intro Q' h1 h2
        refine ⟨u, y, d, ks, l, o, rfl, ry.same s1, env.same s1, wf.2, dy, ?_⟩
        cases ey : evE o y ks l with
        | error m => exact Bad.later (h2 m ey) s1
        | ok z2 => exact fun r2 H2 s2 f2 => h1 z2 r2 H2 ey s2 f2
      by_cases c1 : g = "&&" ∨ g = "||"
      · have lg : isLogic g = true := by
          rcases c1 with rfl | rfl <;> rfl
        rw [if_pos lg] at q
        have tst : ∀ R : Bool → Hp → Prop, R true H1 → tOr (tTest (tOp rEq (tVar 3) (tC (.str "&&")))) (tTest (tOp rEq (tVar 3) (tC (.str "||")))) [some (.ref p), some (.ref d), some (.int o), some (.str g), some r] H1 R := by
          intro R h
          rcases c1 with rfl | rfl
          · exact ⟨_, rfl, rfl, _, rfl, iteT h⟩
          · exact ⟨_, rfl, rfl, _, rfl, iteF ⟨_, rfl, rfl, _, rfl, h⟩⟩
        refine tst _ (iteT ?_)
        refine ⟨_, rfl, r, z, rfl, f1.at_.rd, ?_⟩
        cases z with
        | boo b =>
          have q : AnsF a.flt H H (if b = decide (g = "||") then .ok (.boo b) else (match mBool (evE o y ks l) with | .error m => .error m | .ok q => .ok (.boo q))) Q E := q
          have eg : decide (V.str g = V.str "||") = decide (g = "||") := by
            by_cases c : g = "||"
            · rw [decide_eq_true c, c]
              rfl
            · rw [decide_eq_false c, decide_eq_false fun e => c (by injection e)]
          cases f1.at_
          refine (if_pos (by rfl)).mpr ⟨_, rfl, rfl, rfl, _, rfl, ?_⟩
          by_cases c2 : b = decide (g = "||")
          · rw [if_pos c2] at q
            refine iteD ?_ ⟨_, rfl, q _ _ s1 f1⟩
            rw [eg, ← c2]
            exact decide_eq_true rfl
          · rw [if_neg c2] at q
            refine iteE ?_ ?_
            · rw [eg]
              exact decide_eq_false fun e => c2 (by injection e)
            · refine ⟨_, rfl, p, _, 3, _, rfl, rfl, SqT.of (s1 _ _ hp), rfl, _, rfl, _, rfl, second _ (fun z2 r2 H2 ey s2 f2 => ?_) (fun m em => ?_)⟩
              · refine ⟨r2, z2, rfl, f2.at_.rd, ?_⟩
                rw [ey] at q
                cases z2 with
                | boo b2 =>
                  refine (if_pos (by rfl)).mpr ?_
                  exact q _ _ (s1.trans s2) (f2.back s1)
                | _ => exact (if_neg (by intro e; injection e with e; cases e)).mpr (Bad.later q (s1.trans s2))
              · rw [em] at q
                exact q
        | _ => exact (if_neg (by intro e; injection e with e; cases e)).mpr (Bad.later q s1)
      · have lg : isLogic g = false := by
          unfold isLogic
          rw [decide_eq_false (fun e => c1 (.inl e)), decide_eq_false (fun e => c1 (.inr e))]
          rfl
        rw [if_neg (by rw [lg]; exact Bool.false_ne_true)] at q
        refine ⟨_, rfl, rfl, _, rfl, iteE (decide_eq_false fun e => c1 (.inl (by injection e))) ⟨_, rfl, rfl, _, rfl, iteE (decide_eq_false fun e => c1 (.inr (by injection e))) ?_⟩⟩
        refine ⟨_, rfl, _, rfl, _, rfl, p, _, 3, _, rfl, rfl, SqT.of (s1 _ _ hp), rfl, _, rfl, _, rfl, second _ (fun z2 r2 H2 ey s2 f2 => ?_) (fun m em => ?_)⟩
        · rw [ey] at q
          have g2 := good_evE env.ob y ks l z2 wf.2 env.gl ey
          have s3 := s1.trans s2
          refine ⟨H, g, r, r2, z, z2, rfl, ⟨wf.1.1, lg⟩, Gr.of s3, ?_, goodL_args (goodL_cons gz (goodL_cons g2 goodL_nil)), AnsF.later q s3⟩
          have := FreshL.snoc (FreshL.snoc FreshL.nil (fun _ h => h) f1 s1) (Gr.of s1) f2 s2
          exact this
        · rw [em] at q
          exact q
end
end K19
namespace K19
open PySem PySem.Spec PyProof.Rows L2
section
variable {P : Program} {w : World} {K : PySem.W.Frag} {mg : Str → Option Value} {base : Heap} {a : Ads}
def spCho (C : Addr) (n : Nat) : Sp := fun vs H Q E => ∃ p t v u c x y d ks l o, vs = [.ref p, .ref d, .int o] ∧ H p = some (.tup [.str "choice", t, v, u]) ∧ RepE (At H) t c ∧ RepE (At H) v x ∧ RepE (At H) u y ∧ EnvOk H d ks l o n ∧ wfE (.cho c x y) ks = true ∧ depE c ≤ n ∧ depE x ≤ n ∧ depE y ≤ n ∧ AnsF C H H (evE o (.cho c x y) ks l) Q E
/-- an answer, seen from an earlier heap -/
theorem AnsF.from {C : Addr} {H H1 : Hp} {r : Res} {Q : VK} {E : XK} (q : AnsF C H H r Q E) (s : Same H H1) : AnsF C H1 H1 r Q E := by
  cases r with
  | error m => exact Bad.later q s
  | ok y => exact fun v H2 s2 f => q v H2 (s.trans s2) (f.back s)
theorem ok_evaluate_choice (T : Txt P w K mg a) {n k : Nat} (hk : 60 ≤ k) (G_evaluate : FnOk P w K mg base (L2.CX P w) k a.evaluate a.evaluate_d ["expression", "environment", "owner"] (spEv a.flt n)) : FnOk P w K mg base (L2.CX P w) (k + 1) a.evaluate_choice a.evaluate_choice_d ["expression", "environment", "owner"] (spCho a.flt n) := by
  have G_need_boolean := ok_need_boolean (base := base) T
  refine T.evaluate_choice.F.okX sc_evaluate_choice (fun vs H Q E h => ?_) (fun cdv A outer s H vs Q E hr h => ?_)
  · obtain ⟨p, t, v, u, c, x, y, d, ks, l, o, rfl, _⟩ := h
    rfl
  · obtain ⟨p, t, v, u, c, x, y, d, ks, l, o, rfl, hp, rc, rx, ry, env, wf, dc, dx, dy, q⟩ := h
    simp only [wfE, Bool.and_eq_true, decide_eq_true_eq] at wf
    simp only [evE] at q
    refine ⟨_, (pss_cons (ps_if (pt_val (pe_cd T.need_boolean G_need_boolean (hr.mono (by omega)) (passes_call (takes_of rfl rfl rfl rfl) (fun _ _ _ _ z => z)) (pa_cons (pe_cd T.evaluate G_evaluate (hr.mono (by omega)) (passes_call (takes_of rfl rfl rfl rfl) (fun _ _ _ _ z => z)) (pa_cons (pe_ix ix_tup (pv 0) pe_int (fun _ _ => rfl)) (pa_cons (pv 1) (pa_cons (pv 2) pa_nil)))) pa_nil))) (pss_one (ps_ret (pe_cd T.evaluate G_evaluate (hr.mono (by omega)) (passes_call (takes_of rfl rfl rfl rfl) (fun _ _ _ _ z => z)) (pa_cons (pe_ix ix_tup (pv 0) pe_int (fun _ _ => rfl)) (pa_cons (pv 1) (pa_cons (pv 2) pa_nil)))))) pss_nil)
      (pss_one (ps_ret (pe_cd T.evaluate G_evaluate (hr.mono (by omega)) (passes_call (takes_of rfl rfl rfl rfl) (fun _ _ _ _ z => z)) (pa_cons (pe_ix ix_tup (pv 0) pe_int (fun _ _ => rfl)) (pa_cons (pv 1) (pa_cons (pv 2) pa_nil))))))), ?_⟩
    refine ⟨_, rfl, p, _, 1, _, rfl, rfl, SqT.of hp, rfl, _, rfl, _, rfl, t, c, d, ks, l, o, rfl, rc, env, wf.1.1, dc, ?_⟩
    cases ec : evE o c ks l with
    | error m =>
      rw [ec] at q
      exact q
    | ok z =>
      rw [ec] at q
      intro r H1 s1 f1
      refine ⟨r, z, rfl, f1.at_.rd, ?_⟩
      cases z with
      | boo b =>
        cases f1.at_
        refine (if_pos (by rfl)).mpr ⟨_, rfl, ?_⟩
        cases b with
        | true =>
          refine iteT ⟨_, rfl, p, _, 2, _, rfl, rfl, SqT.of (s1 _ _ hp), rfl, _, rfl, _, rfl, v, x, d, ks, l, o, rfl, rx.same s1, env.same s1, wf.1.2, dx, AnsF.from q s1⟩
        | false =>
          refine iteF ⟨_, rfl, p, _, 3, _, rfl, rfl, SqT.of (s1 _ _ hp), rfl, _, rfl, _, rfl, u, y, d, ks, l, o, rfl, ry.same s1, env.same s1, wf.2, dy, AnsF.from q s1⟩
      | _ => exact (if_neg (by intro e; injection e with e; cases e)).mpr (Bad.later q s1)
/-- the parts of a part: not, minus, field, item -/
inductive PartE (H : Hp) : Addr → Ex → V → Ex → Option (V × Ex) → Prop
  | nt {p : Addr} {v : V} {x : Ex} : H p = some (.tup [.str "not", v]) → RepE (At H) v x → PartE H p (.nt x) v x none
  | neg {p : Addr} {v : V} {x : Ex} : H p = some (.tup [.str "minus", v]) → RepE (At H) v x → PartE H p (.neg x) v x none
  | fld {p : Addr} {v : V} {x : Ex} {s : Str} : H p = some (.tup [.str "field", v, .str s]) → RepE (At H) v x → PartE H p (.fld x s) v x none
  | itm {p : Addr} {v u : V} {x y : Ex} : H p = some (.tup [.str "item", v, u]) → RepE (At H) v x → RepE (At H) u y → PartE H p (.itm x y) v x (some (u, y))
def spPart (C : Addr) (n : Nat) : Sp := fun vs H Q E => ∃ p ex v x r d ks l o, vs = [.ref p, .ref d, .int o] ∧ PartE H p ex v x r ∧ EnvOk H d ks l o n ∧ wfE ex ks = true ∧ depE ex ≤ n + 1 ∧ AnsF C H H (evE o ex ks l) Q E
theorem ok_evaluate_part (T : Txt P w K mg a) {n k : Nat} (hk : 60 ≤ k) (G_evaluate : FnOk P w K mg base (L2.CX P w) k a.evaluate a.evaluate_d ["expression", "environment", "owner"] (spEv a.flt n)) : FnOk P w K mg base (L2.CX P w) (k + 1) a.evaluate_part a.evaluate_part_d ["expression", "environment", "owner"] (spPart a.flt n) := by
  have G_need_boolean := ok_need_boolean (base := base) T
  have G_need_number := ok_need_number (base := base) T
  have G_bounded_number := ok_bounded_number (base := base) T
  have G_field_of := ok_field_of (base := base) T
  have G_at_place := ok_at_place (base := base) T
  refine T.evaluate_part.F.okX sc_evaluate_part (fun vs H Q E h => ?_) (fun cdv A outer s H vs Q E hr h => ?_)
  · obtain ⟨p, ex, v, x, r, d, ks, l, o, rfl, _⟩ := h
    rfl
  · obtain ⟨p, ex, v, x, r, d, ks, l, o, rfl, pe, env, wf, dp, q⟩ := h
    refine ⟨_, (pss_cons (ps_set (i := 3) sc_evaluate_part.nd rfl (Or.inl rfl) (pe_cd T.evaluate G_evaluate (hr.mono (by omega)) (passes_call (takes_of rfl rfl rfl rfl) (fun _ _ _ _ z => z)) (pa_cons (pe_ix ix_tup (pv 0) pe_int (fun _ _ => rfl)) (pa_cons (pv 1) (pa_cons (pv 2) pa_nil)))))
      (pss_cons (ps_if (pt_cmpR op_eq (pe_ix ix_tup (pv 0) pe_int (fun _ _ => rfl)) pe_str (nomark _)) (pss_one (ps_ret (pe_not (pe_cd T.need_boolean G_need_boolean (hr.mono (by omega)) (passes_call (takes_of rfl rfl rfl rfl) (fun _ _ _ _ z => z)) (pa_cons (pv 3) pa_nil))))) pss_nil)
      (pss_cons (ps_if (pt_cmpR op_eq (pe_ix ix_tup (pv 0) pe_int (fun _ _ => rfl)) pe_str (nomark _)) (pss_one (ps_ret (pe_cd T.bounded_number G_bounded_number (hr.mono (by omega)) (passes_call (takes_of rfl rfl rfl rfl) (fun _ _ _ _ z => z)) (pa_cons (pe_un un_neg (pe_cd T.need_number G_need_number (hr.mono (by omega)) (passes_call (takes_of rfl rfl rfl rfl) (fun _ _ _ _ z => z)) (pa_cons (pv 3) pa_nil))) pa_nil)))) pss_nil)
      (pss_cons (ps_if (pt_cmpR op_eq (pe_ix ix_tup (pv 0) pe_int (fun _ _ => rfl)) pe_str (nomark _)) (pss_one (ps_ret (pe_cd T.field_of G_field_of (hr.mono (by omega)) (passes_call (takes_of rfl rfl rfl rfl) (fun _ _ _ _ z => z)) (pa_cons (pv 3) (pa_cons (pe_ix ix_tup (pv 0) pe_int (fun _ _ => rfl)) pa_nil))))) pss_nil)
      (pss_one (ps_ret (pe_cd T.at_place G_at_place (hr.mono (by omega)) (passes_call (takes_of rfl rfl rfl rfl) (fun _ _ _ _ z => z)) (pa_cons (pv 3) (pa_cons (pe_cd T.evaluate G_evaluate (hr.mono (by omega)) (passes_call (takes_of rfl rfl rfl rfl) (fun _ _ _ _ z => z)) (pa_cons (pe_ix ix_tup (pv 0) pe_int (fun _ _ => rfl)) (pa_cons (pv 1) (pa_cons (pv 2) pa_nil)))) pa_nil))))))))), ?_⟩
    cases pe with
    | nt hp rx =>
      simp only [wfE] at wf
      simp only [depE] at dp
      simp only [evE] at q
      refine ⟨_, rfl, p, _, 1, _, rfl, rfl, SqT.of hp, rfl, _, rfl, _, rfl, v, x, d, ks, l, o, rfl, rx, env, wf, by omega, ?_⟩
      cases ex : evE o x ks l with
      | error m =>
        rw [ex] at q
        exact q
      | ok z =>
        rw [ex] at q
        intro r H1 s1 f1
        refine ⟨_, rfl, p, _, 0, _, rfl, rfl, SqT.of (s1 _ _ hp), rfl, rfl, _, rfl, iteT ⟨_, rfl, r, z, rfl, f1.at_.rd, ?_⟩⟩
        cases z with
        | boo b =>
          cases f1.at_
          exact (if_pos (by rfl)).mpr ⟨_, rfl, q _ _ s1 (Fresh.boo _)⟩
        | _ => exact (if_neg (by intro e; injection e with e; cases e)).mpr (Bad.later q s1)
    | neg hp rx =>
      simp only [wfE] at wf
      simp only [depE] at dp
      simp only [evE] at q
      refine ⟨_, rfl, p, _, 1, _, rfl, rfl, SqT.of hp, rfl, _, rfl, _, rfl, v, x, d, ks, l, o, rfl, rx, env, wf, by omega, ?_⟩
      cases ex : evE o x ks l with
      | error m =>
        rw [ex] at q
        exact q
      | ok z =>
        rw [ex] at q
        intro r H1 s1 f1
        refine ⟨_, rfl, p, _, 0, _, rfl, rfl, SqT.of (s1 _ _ hp), rfl, rfl, _, rfl, iteF ⟨_, rfl, p, _, 0, _, rfl, rfl, SqT.of (s1 _ _ hp), rfl, rfl, _, rfl, iteT ⟨_, rfl, r, z, rfl, f1.at_.rd, ?_⟩⟩⟩
        cases z with
        | num i =>
          cases f1.at_
          exact (if_pos (by rfl)).mpr ⟨_, rfl, _, rfl, num_ans (i := -i) (AnsF.later q s1)⟩
        | _ => exact (if_neg (by intro e; injection e with e; cases e)).mpr (Bad.later q s1)
    | fld hp rx =>
      rename_i nm
      simp only [wfE, Bool.and_eq_true, decide_eq_true_eq] at wf
      simp only [depE] at dp
      simp only [evE] at q
      refine ⟨_, rfl, p, _, 1, _, rfl, rfl, SqT.of hp, rfl, _, rfl, _, rfl, v, x, d, ks, l, o, rfl, rx, env, wf.1, by omega, ?_⟩
      cases ex : evE o x ks l with
      | error m =>
        rw [ex] at q
        exact q
      | ok z =>
        rw [ex] at q
        intro r H1 s1 f1
        refine ⟨_, rfl, p, _, 0, _, rfl, rfl, SqT.of (s1 _ _ hp), rfl, rfl, _, rfl, iteF ⟨_, rfl, p, _, 0, _, rfl, rfl, SqT.of (s1 _ _ hp), rfl, rfl, _, rfl, iteF ?_⟩⟩
        refine ⟨_, rfl, p, _, 0, _, rfl, rfl, SqT.of (s1 _ _ hp), rfl, rfl, _, rfl, iteT ⟨_, rfl, _, rfl, p, _, 2, _, rfl, rfl, SqT.of (s1 _ _ hp), rfl, H, r, z, nm, rfl, f1, by omega, ?_⟩⟩
        exact AnsF.later q s1
    | itm hp rx ry =>
      rename_i u y
      simp only [wfE, Bool.and_eq_true, decide_eq_true_eq] at wf
      simp only [depE] at dp
      simp only [evE] at q
      refine ⟨_, rfl, p, _, 1, _, rfl, rfl, SqT.of hp, rfl, _, rfl, _, rfl, v, x, d, ks, l, o, rfl, rx, env, wf.1, by omega, ?_⟩
      cases ex : evE o x ks l with
      | error m =>
        rw [ex] at q
        exact q
      | ok z =>
        rw [ex] at q
        have gz := good_evE env.ob x ks l z wf.1 env.gl ex
        intro r H1 s1 f1
        refine ⟨_, rfl, p, _, 0, _, rfl, rfl, SqT.of (s1 _ _ hp), rfl, rfl, _, rfl, iteF ⟨_, rfl, p, _, 0, _, rfl, rfl, SqT.of (s1 _ _ hp), rfl, rfl, _, rfl, iteF ?_⟩⟩
        refine ⟨_, rfl, p, _, 0, _, rfl, rfl, SqT.of (s1 _ _ hp), rfl, rfl, _, rfl, iteF ⟨_, rfl, _, rfl, p, _, 2, _, rfl, rfl, SqT.of (s1 _ _ hp), rfl, _, rfl, _, rfl, u, y, d, ks, l, o, rfl, ry.same s1, env.same s1, wf.2, by omega, ?_⟩⟩
        cases ey : evE o y ks l with
        | error m =>
          rw [ey] at q
          exact Bad.later q s1
        | ok z2 =>
          rw [ey] at q
          intro r2 H2 s2 f2
          refine ⟨H, r, z, r2, z2, rfl, f1.same s2, f2.at_, by have := gz.2.2; omega, gz.1, AnsF.later q (s1.trans s2)⟩
end
end K19
namespace K19
open PySem PySem.Spec PyProof.Rows L2
theorem gath_snoc (f : Val → Except Str (Option Val)) (m : Val) : ∀ (ms ys : List Val), gath f ms = .ok ys → gath f (ms ++ [m]) = (match f m with | .error e => .error e | .ok o => .ok (ys ++ o.toList))
  | [], ys, h => by
    cases h
    simp only [List.nil_append, gath]
    cases f m with
    | error e => rfl
    | ok o => cases o <;> rfl
  | x :: r, ys, h => by
    simp only [gath] at h
    simp only [List.cons_append, gath]
    cases e : f x with
    | error m' =>
      rw [e] at h
      cases h
    | ok o =>
      rw [e] at h
      dsimp only at h ⊢
      cases e2 : gath f r with
      | error m' =>
        rw [e2] at h
        cases h
      | ok zs =>
        rw [e2] at h
        dsimp only at h
        rw [gath_snoc f m r zs e2]
        cases f m with
        | error e => rfl
        | ok o2 =>
          cases o with
          | none =>
            cases h
            rfl
          | some v =>
            cases h
            rfl
theorem gath_err (f : Val → Except Str (Option Val)) {m : Val} {e : Str} (t : List Val) (hm : f m = .error e) : ∀ (ms ys : List Val), gath f ms = .ok ys → gath f (ms ++ m :: t) = .error e
  | [], ys, h => by
    simp only [List.nil_append, gath, hm]
  | x :: r, ys, h => by
    simp only [gath] at h
    simp only [List.cons_append, gath]
    cases e1 : f x with
    | error m' =>
      rw [e1] at h
      cases h
    | ok o =>
      rw [e1] at h
      dsimp only at h ⊢
      cases e2 : gath f r with
      | error m' =>
        rw [e2] at h
        cases h
      | ok zs => rw [gath_err f t hm r zs e2]
section
variable {P : Program} {w : World} {K : PySem.W.Frag} {mg : Str → Option Value} {base : Heap} {a : Ads}
inductive MadeE (H : Hp) : Addr → Ex → Prop
  | lst {p b : Addr} {xs : List V} {es : List Ex} : H p = some (.tup [.str "list", .ref b]) → H b = some (.lst xs) → RepEs (At H) xs es → MadeE H p (.lst es)
  | rcd {p b : Addr} {ps : List V} {ks : List Str} {es : List Ex} : H p = some (.tup [.str "record", .ref b]) → H b = some (.lst ps) → RepP (At H) ps ks es → MadeE H p (.rcd ks es)
  | act {p b : Addr} {n : Str} {xs : List V} {es : List Ex} : H p = some (.tup [.str "act", .str n, .ref b]) → H b = some (.lst xs) → RepEs (At H) xs es → MadeE H p (.act n es)
def spMade (C : Addr) (n : Nat) : Sp := fun vs H Q E => ∃ p ex d ks l o, vs = [.ref p, .ref d, .int o] ∧ MadeE H p ex ∧ EnvOk H d ks l o n ∧ wfE ex ks = true ∧ depE ex ≤ n + 1 ∧ AnsF C H H (evE o ex ks l) Q E
theorem ok_evaluate_made (T : Txt P w K mg a) {n k : Nat} (hk : 60 ≤ k) (G_evaluate : FnOk P w K mg base (L2.CX P w) k a.evaluate a.evaluate_d ["expression", "environment", "owner"] (spEv a.flt n)) : FnOk P w K mg base (L2.CX P w) (k + 2) a.evaluate_made a.evaluate_made_d ["expression", "environment", "owner"] (spMade a.flt n) := by
  have G_bounded := ok_bounded (base := base) T
  have G_evaluate_all := ok_evaluate_all (base := base) T (by omega) G_evaluate
  refine T.evaluate_made.F.okX sc_evaluate_made (fun vs H Q E h => ?_) (fun cdv A outer s H vs Q E hr h => ?_)
  · obtain ⟨p, ex, d, ks, l, o, rfl, _⟩ := h
    rfl
  · obtain ⟨p, ex, d, ks, l, o, rfl, me, env, wf, dp, q⟩ := h
    refine ⟨_, (pss_cons (ps_if (pt_cmpR op_eq (pe_ix ix_tup (pv 0) pe_int (fun _ _ => rfl)) pe_str (nomark _)) (pss_one (ps_ret (pe_cd T.bounded G_bounded (hr.mono (by omega)) (passes_call (takes_of rfl rfl rfl rfl) (fun _ _ _ _ z => z)) (pa_cons (pe_cd T.evaluate_all G_evaluate_all (hr.mono (by omega)) (passes_call (takes_of rfl rfl rfl rfl) (fun _ _ _ _ z => z)) (pa_cons (pe_ix ix_tup (pv 0) pe_int (fun _ _ => rfl)) (pa_cons (pv 1) (pa_cons (pv 2) pa_nil)))) pa_nil)))) pss_nil)
      (pss_cons (ps_if (pt_cmpR op_eq (pe_ix ix_tup (pv 0) pe_int (fun _ _ => rfl)) pe_str (nomark _)) (pss_one (ps_ret (pe_cd T.bounded G_bounded (hr.mono (by omega)) (passes_call (takes_of rfl rfl rfl rfl) (fun _ _ _ _ z => z)) (pa_cons (pe_tup (pa_cons pe_str (pa_cons (pv 2) (pa_cons (pe_ix ix_tup (pv 0) pe_int (fun _ _ => rfl)) (pa_cons (pe_cd T.evaluate_all G_evaluate_all (hr.mono (by omega)) (passes_call (takes_of rfl rfl rfl rfl) (fun _ _ _ _ z => z)) (pa_cons (pe_ix ix_tup (pv 0) pe_int (fun _ _ => rfl)) (pa_cons (pv 1) (pa_cons (pv 2) pa_nil)))) pa_nil))))) pa_nil)))) pss_nil)
      (pss_cons (ps_set (i := 3) sc_evaluate_made.nd rfl (Or.inl rfl) pe_dnewK)
      (pss_cons (ps_for (passes_of rfl) rfl (pi_list (pe_ix ix_tup (pv 0) pe_int (fun _ _ => rfl))) (pg_tup rfl (pgs_cons (pg_name (i := 4) sc_evaluate_made.nd rfl (Or.inl rfl)) (pgs_cons (pg_name (i := 5) sc_evaluate_made.nd rfl (Or.inl rfl)) pgs_nil))) (pss_one (ps_dput (hu_of hr) (pv 3) (pv 4) (pe_cd T.evaluate G_evaluate (hr.mono (by omega)) (passes_call (takes_of rfl rfl rfl rfl) (fun _ _ _ _ z => z)) (pa_cons (pv 5) (pa_cons (pv 1) (pa_cons (pv 2) pa_nil)))) rfl)))
      (pss_one (ps_ret (pe_cd T.bounded G_bounded (hr.mono (by omega)) (passes_call (takes_of rfl rfl rfl rfl) (fun _ _ _ _ z => z)) (pa_cons (pv 3) pa_nil)))))))), ?_⟩
    cases me with
    | @lst b xs es hp hb re =>
      simp only [wfE, Bool.and_eq_true, decide_eq_true_eq] at wf
      simp only [depE] at dp
      simp only [evE] at q
      refine ⟨_, rfl, p, _, 0, _, rfl, rfl, SqT.of hp, rfl, rfl, _, rfl, iteT ⟨_, rfl, p, _, 1, _, rfl, rfl, SqT.of hp, rfl, _, rfl, _, rfl, b, xs, es, d, ks, l, o, rfl, hb, re, env, wf.2, by omega, by omega, ?_⟩⟩
      cases ex : evEs o es ks l with
      | error m =>
        rw [ex] at q
        exact q
      | ok ys =>
        rw [ex] at q
        have g := good_evEs env.ob es ks l ys wf.2 env.gl ex
        have z1 := goodL_size g.1
        have z2 := goodL_depth g.1
        intro D H1 s1 f1
        exact ⟨_, _, rfl, f1.at_, goodL_okL g.1, by simp only [depthV]; omega, by simp only [sizeV]; omega, made_fresh q s1 f1⟩
    | @act b nm xs es hp hb re =>
      simp only [wfE, Bool.and_eq_true, decide_eq_true_eq] at wf
      simp only [depE] at dp
      simp only [evE] at q
      refine ⟨_, rfl, p, _, 0, _, rfl, rfl, SqT.of hp, rfl, rfl, _, rfl, iteF ⟨_, rfl, p, _, 0, _, rfl, rfl, SqT.of hp, rfl, rfl, _, rfl, iteT ?_⟩⟩
      refine ⟨_, rfl, _, rfl, p, _, 1, _, rfl, rfl, SqT.of hp, rfl, _, rfl, p, _, 2, _, rfl, rfl, SqT.of hp, rfl, _, rfl, _, rfl, b, xs, es, d, ks, l, o, rfl, hb, re, env, wf.2, by omega, by omega, ?_⟩
      cases ex : evEs o es ks l with
      | error m =>
        rw [ex] at q
        exact q
      | ok ys =>
        rw [ex] at q
        have g := good_evEs env.ob es ks l ys wf.2 env.gl ex
        have z1 := goodL_size g.1
        have z2 := goodL_depth g.1
        intro D H1 s1 f1
        refine ⟨by show 4 ≤ sizeLine; decide, fun t ht => ?_⟩
        have f2 := f1.act (oo := o) (n := nm) s1 ht
        have e : okV (.act o nm ys) = true := by
          simp only [okV, Bool.and_eq_true, decide_eq_true_eq]
          exact ⟨goodL_okL g.1, env.ob⟩
        exact ⟨_, _, rfl, f2.at_, e, by simp only [depthV]; omega, by simp only [sizeV]; omega, made_fresh q (same_snoc s1 ht _) f2⟩
    | @rcd b ps js es hp hb re =>
      simp only [wfE, Bool.and_eq_true, decide_eq_true_eq] at wf
      simp only [depE] at dp
      simp only [evE] at q
      have lps := re.length
      refine ⟨_, rfl, p, _, 0, _, rfl, rfl, SqT.of hp, rfl, rfl, _, rfl, iteF ⟨_, rfl, p, _, 0, _, rfl, rfl, SqT.of hp, rfl, rfl, _, rfl, iteF ?_⟩⟩
      intro D hD
      have hDn : (upd H D (.dK [])) D ≠ none := by rw [upd_same]; simp
      have sD := same_new hD (.dK [])
      have bad : ∀ (i : Nat) (m : Str) (ys : List Val), (es.map fun e => evE o e ks l).take i = ys.map .ok → (es.map fun e => evE o e ks l)[i]? = some (.error m) → Bad a.flt H E m := by
        intro i m ys et em
        have : (es.map fun e => evE o e ks l) = ys.map .ok ++ .error m :: (es.map fun e => evE o e ks l).drop (i + 1) := by
          rw [← et]
          obtain ⟨h, e⟩ := List.getElem?_eq_some_iff.mp em
          rw [← e]
          exact (List.take_append_drop i _).symm.trans (by rw [List.drop_eq_getElem_cons h])
        rw [evEs_seq, this, seqR_err m _ ys] at q
        exact q
      refine ⟨_, rfl, p, _, 1, _, rfl, rfl, SqT.of (sD _ _ hp), rfl, ?_⟩
      refine ⟨b, rfl, ⟨ps, SqL.of (sD _ _ hb)⟩, for_list (K := K) (a := b) (xs := ps) (fun i σ H1 => ∃ o1 o2, σ = [some (.ref p), some (.ref d), some (.int o), some (.ref D), o1, o2] ∧ Same H H1 ∧ Gr (upd H D (.dK [])) H1 ∧ ∃ kvs ys, H1 D = some (.dK kvs) ∧ kvs.map (·.1) = (js.take i).map Sum.inr ∧ (es.map fun e => evE o e ks l).take i = ys.map .ok ∧ FreshL (upd H D (.dK [])) H1 (kvs.map (·.2)) ys)
        ⟨none, none, rfl, sD, fun _ h => h, [], [], upd_same, rfl, rfl, FreshL.nil⟩ (fun i σ H1 _ ⟨_, _, _, s2, _⟩ => SqL.of (s2 _ _ hb)) ?_ ?_⟩
      · rintro i y σ H1 hi ⟨o1, o2, rfl, s1, g1, kvs, ys, e1, ek, et, f1⟩
        obtain ⟨t, nm, u, x, rfl, ht, hk', hx, rx⟩ := re.get hi
        have mx := List.mem_of_getElem? hx
        have hrx : (es.map fun e => evE o e ks l)[i]? = some (evE o x ks l) := by rw [List.getElem?_map, hx]; rfl
        refine ⟨t, [.str nm, u], rfl, SqT.of (s1 _ _ ht), rfl, _, _, rfl, _, _, rfl, rfl, ?_⟩
        refine ⟨_, rfl, _, rfl, _, rfl, u, x, d, ks, l, o, rfl, rx.same s1, env.same s1, wfEs_mem wf.2 mx, by have := depEs_mem mx; omega, ?_⟩
        cases ex : evE o x ks l with
        | error m => exact Bad.later (bad i m ys et (hrx.trans (by rw [ex]))) s1
        | ok z =>
          intro r H2 s2 f2
          have el : kvs.length = i := by
            have := congrArg List.length ek
            simp only [List.length_map, List.length_take] at this
            obtain ⟨hlt, _⟩ := List.getElem?_eq_some_iff.mp hi
            omega
          have new : valV kvs (Sum.inr nm : Key) = none := by
            cases q : valV kvs (Sum.inr nm : Key) with
            | none => rfl
            | some v =>
              have m := valV_in q
              rw [ek] at m
              obtain ⟨k2, m2, e2⟩ := List.mem_map.mp m
              cases e2
              obtain ⟨i2, h2, e2⟩ := List.mem_iff_getElem.mp m2
              rw [List.length_take] at h2
              rw [List.getElem_take] at e2
              obtain ⟨h3, e3⟩ := List.getElem?_eq_some_iff.mp hk'
              have := (List.getElem_inj wf.1.1.1.1.1).mp (e2.trans e3.symm)
              omega
          have i20 : i < 20 := by
            have := (List.getElem?_eq_some_iff.mp hk').1
            omega
          refine ⟨_, rfl, _, rfl, D, _, rfl, .inl ⟨kvs, .inr nm, s2 _ _ e1, rfl, lt_line (by omega), rfl⟩, _, _, rfl, same_mut (s1.trans s2) hD _, (g1.trans (Gr.of s2)).upd _ _, _, ys ++ [z], upd_same, ?_, ?_, ?_⟩
          · rw [putK_new _ new, List.map_append, ek, take_succ_get hk', List.map_append]
            rfl
          · rw [take_succ_get hrx, et, ex, List.map_append]
            rfl
          · rw [putK_new _ new, List.map_append]
            exact (f1.snoc g1 f2 s2).upd hDn
      · rintro σ H1 ⟨o1, o2, rfl, s1, g1, kvs, ys, e1, ek, et, f1⟩
        have ee : evEs o es ks l = .ok ys := by
          rw [evEs_seq, ← seqR_ok, ← et, lps.1, ← List.length_map (fun e => evE o e ks l), List.take_length]
        rw [ee] at q
        have g := good_evEs env.ob es ks l ys wf.2 env.gl ee
        have z1 := goodL_size g.1
        have z2 := goodL_depth g.1
        have ek : kvs.map (·.1) = js.map Sum.inr := by rw [ek, lps.1, ← lps.2, List.take_length]
        have f2 : Fresh H H1 (.ref D) (.rcd js ys) := f1.rcd hD e1 ek
        have e : okV (.rcd js ys) = true := by
          simp only [okV, Bool.and_eq_true, decide_eq_true_eq]
          exact ⟨⟨⟨⟨wf.1.1.1.1.1, by rw [g.2]; exact wf.1.1.1.1.2⟩, by omega⟩, wf.1.1.2⟩, goodL_okL g.1⟩
        have := wf.1.2
        exact ⟨_, rfl, _, _, rfl, f2.at_, e, by simp only [depthV]; omega, by simp only [sizeV]; omega, made_fresh q s1 f2⟩
end
end K19
namespace K19
open PySem PySem.Spec PyProof.Rows L2
section
variable {P : Program} {w : World} {K : PySem.W.Frag} {mg : Str → Option Value} {base : Heap} {a : Ads}
/-- a gathering's parts: what, the name, from where, under what condition -/
inductive GatE (H : Hp) : Addr → Ex → V → Str → V → V → Ex → Ex → Option Ex → Prop
  | gat {p : Addr} {v u : V} {x : Ex} {s : Str} {y : Ex} : H p = some (.tup [.str "gather", v, .str s, u, .non]) → RepE (At H) v x → RepE (At H) u y → GatE H p (.gat x s y) v s u .non x y none
  | gatIf {p : Addr} {v u t : V} {x : Ex} {s : Str} {y c : Ex} : H p = some (.tup [.str "gather", v, .str s, u, t]) → RepE (At H) v x → RepE (At H) u y → RepE (At H) t c → GatE H p (.gatIf x s y c) v s u t x y (some c)
/-- one turn -/
def turn (o : Int) (x : Ex) (c : Option Ex) (ks : List Str) (l : List Val) (m : Val) : Except Str (Option Val) := match c with
  | none => someR (evE o x ks (l ++ [m]))
  | some c => match mBool (evE o c ks (l ++ [m])) with
    | .error e => .error e
    | .ok true => someR (evE o x ks (l ++ [m]))
    | .ok false => .ok none
theorem GatE.at_ {H : Hp} {p : Addr} {ex : Ex} {v : V} {s : Str} {u t : V} {x y : Ex} {c : Option Ex} (h : GatE H p ex v s u t x y c) : H p = some (.tup [.str "gather", v, .str s, u, t]) := by
  cases h <;> assumption
theorem GatE.x_ {H : Hp} {p : Addr} {ex : Ex} {v : V} {s : Str} {u t : V} {x y : Ex} {c : Option Ex} (h : GatE H p ex v s u t x y c) : RepE (At H) v x := by
  cases h <;> assumption
theorem GatE.y_ {H : Hp} {p : Addr} {ex : Ex} {v : V} {s : Str} {u t : V} {x y : Ex} {c : Option Ex} (h : GatE H p ex v s u t x y c) : RepE (At H) u y := by
  cases h <;> assumption
theorem GatE.c_ {H : Hp} {p : Addr} {ex : Ex} {v : V} {s : Str} {u t : V} {x y : Ex} {c : Option Ex} (h : GatE H p ex v s u t x y c) : (c = none ∧ t = .non) ∨ ∃ z, c = some z ∧ RepE (At H) t z := by
  cases h with
  | gat => exact .inl ⟨rfl, rfl⟩
  | gatIf _ _ _ r => exact .inr ⟨_, rfl, r⟩
theorem GatE.ev {H : Hp} {p : Addr} {ex : Ex} {v : V} {s : Str} {u t : V} {x y : Ex} {c : Option Ex} (h : GatE H p ex v s u t x y c) (o : Int) (ks : List Str) (l : List Val) : evE o ex ks l = (match evE o y ks l with
    | .error m => .error m
    | .ok (.lst ms) => (match gath (turn o x c (ks ++ [s]) l) ms with | .error m => .error m | .ok ys => mMade (.lst ys))
    | .ok _ => .error "not a list") := by
  cases h with
  | gat =>
    simp only [evE]
    rfl
  | gatIf =>
    simp only [evE]
    rfl
theorem GatE.wf {H : Hp} {p : Addr} {ex : Ex} {v : V} {s : Str} {u t : V} {x y : Ex} {c : Option Ex} (h : GatE H p ex v s u t x y c) {ks : List Str} (w : wfE ex ks = true) : s ∉ ks ∧ wfE x (ks ++ [s]) = true ∧ wfE y ks = true ∧ ∀ z, c = some z → wfE z (ks ++ [s]) = true := by
  cases h with
  | gat =>
    simp only [wfE, Bool.and_eq_true, decide_eq_true_eq] at w
    exact ⟨w.1.1, w.1.2, w.2, fun z e => by cases e⟩
  | gatIf =>
    simp only [wfE, Bool.and_eq_true, decide_eq_true_eq] at w
    exact ⟨w.1.1.1, w.1.1.2, w.1.2, fun z e => by cases e; exact w.2⟩
theorem GatE.dep {H : Hp} {p : Addr} {ex : Ex} {v : V} {s : Str} {u t : V} {x y : Ex} {c : Option Ex} (h : GatE H p ex v s u t x y c) {n : Nat} (d : depE ex ≤ n + 1) : depE x ≤ n ∧ depE y ≤ n ∧ ∀ z, c = some z → depE z ≤ n := by
  cases h with
  | gat =>
    simp only [depE] at d
    exact ⟨by omega, by omega, fun z e => by cases e⟩
  | gatIf =>
    simp only [depE] at d
    exact ⟨by omega, by omega, fun z e => by cases e; omega⟩
theorem FreshL.under {H0 H : Hp} {xs : List V} {l : List Val} {D : Addr} {o : HO} (h : FreshL H0 H xs l) (hD : H0 D ≠ none) : FreshL H0 (L2.upd H D o) xs l := h.upd hD
theorem EnvOk.more {H : Hp} {d I : Addr} {ks : List Str} {l : List Val} {o : Int} {n : Nat} {s : Str} {v : V} {m : Val} (h : EnvOk H d ks l o (n + 1)) (hI : H I = none) (hs : s ∉ ks) (rv : Rep (At H) v m) (gm : good m) :
    ∃ kvs, H d = some (.dK kvs) ∧ kvs.length ≤ 200 ∧ valV kvs (Sum.inr s : Key) = none ∧ EnvOk (upd (upd H I (.dK kvs)) I (.dK (kvs ++ [(Sum.inr s, v)]))) I (ks ++ [s]) (l ++ [m]) o n := by
  obtain ⟨kvs, e1, e2, e3⟩ := h.ex
  have el : kvs.length = ks.length := by simpa using congrArg List.length e2
  have hl := h.len
  have sm : Same H (upd (upd H I (.dK kvs)) I (.dK (kvs ++ [(Sum.inr s, v)]))) := same_mut (same_new hI _) hI _
  refine ⟨kvs, e1, by omega, ?_, ⟨_, upd_same, ?_, ?_⟩, ?_, ?_, h.ob, goodL_snoc h.gl gm⟩
  · cases q : valV kvs (Sum.inr s : Key) with
    | none => rfl
    | some u =>
      have m := valV_in q
      rw [e2] at m
      obtain ⟨k2, m2, e⟩ := List.mem_map.mp m
      cases e
      exact absurd m2 hs
  · rw [List.map_append, List.map_append, e2]
    rfl
  · rw [List.map_append]
    exact (e3.same sm).snoc (rv.same sm)
  · rw [List.nodup_append]
    exact ⟨h.nd, by simp, fun a ha b hb e => by
      rw [List.mem_singleton.mp hb] at e
      exact hs (e ▸ ha)⟩
  · rw [List.length_append]
    show ks.length + 1 + n ≤ 200
    omega
def spGat (C : Addr) (n : Nat) : Sp := fun vs H Q E => ∃ p ex v s u t x y c d ks l o, vs = [.ref p, .ref d, .int o] ∧ GatE H p ex v s u t x y c ∧ EnvOk H d ks l o (n + 1) ∧ wfE ex ks = true ∧ depE ex ≤ n + 1 ∧ AnsF C H H (evE o ex ks l) Q E
theorem ok_evaluate_gathering (T : Txt P w K mg a) {n k : Nat} (hk : 60 ≤ k) (G_evaluate : FnOk P w K mg base (L2.CX P w) k a.evaluate a.evaluate_d ["expression", "environment", "owner"] (spEv a.flt n)) : FnOk P w K mg base (L2.CX P w) (k + 1) a.evaluate_gathering a.evaluate_gathering_d ["expression", "environment", "owner"] (spGat a.flt n) := by
  have G_bounded := ok_bounded (base := base) T
  have G_need_list := ok_need_list (base := base) T
  have G_need_boolean := ok_need_boolean (base := base) T
  refine T.evaluate_gathering.F.okX sc_evaluate_gathering (fun vs H Q E h => ?_) (fun cdv A outer s H vs Q E hr h => ?_)
  · obtain ⟨p, ex, v, s, u, t, x, y, c, d, ks, l, o, rfl, _⟩ := h
    rfl
  · obtain ⟨p, ex, v, nm, u, t, x, y, c, d, ks, l, o, rfl, ge, env, wf, dp, q⟩ := h
    refine ⟨_, (pss_cons (ps_set (i := 3) sc_evaluate_gathering.nd rfl (Or.inl rfl) (pe_lst pa_nil))
      (pss_cons (ps_for (passes_of rfl) rfl (pi_list (pe_cd T.need_list G_need_list (hr.mono (by omega)) (passes_call (takes_of rfl rfl rfl rfl) (fun _ _ _ _ z => z)) (pa_cons (pe_cd T.evaluate G_evaluate (hr.mono (by omega)) (passes_call (takes_of rfl rfl rfl rfl) (fun _ _ _ _ z => z)) (pa_cons (pe_ix ix_tup (pv 0) pe_int (fun _ _ => rfl)) (pa_cons (pv 1) (pa_cons (pv 2) pa_nil)))) pa_nil))) (pg_name (i := 4) sc_evaluate_gathering.nd rfl (Or.inl rfl)) (pss_cons (ps_set (i := 5) sc_evaluate_gathering.nd rfl (Or.inl rfl) (pe_callTy call_dictD rfl T.b_dict (by decide +kernel) (pa_cons (pv 1) pa_nil)))
      (pss_cons (ps_dput (hu_of hr) (pv 5) (pe_ix ix_tup (pv 0) pe_int (fun _ _ => rfl)) (pv 4) rfl)
      (pss_one (ps_if (PW.pt (pw_or (pt_cmpR op_isN (pe_ix ix_tup (pv 0) pe_int (fun _ _ => rfl)) pe_non (nomark _)) (pw_or1 (pt_val (pe_cd T.need_boolean G_need_boolean (hr.mono (by omega)) (passes_call (takes_of rfl rfl rfl rfl) (fun _ _ _ _ z => z)) (pa_cons (pe_cd T.evaluate G_evaluate (hr.mono (by omega)) (passes_call (takes_of rfl rfl rfl rfl) (fun _ _ _ _ z => z)) (pa_cons (pe_ix ix_tup (pv 0) pe_int (fun _ _ => rfl)) (pa_cons (pv 5) (pa_cons (pv 2) pa_nil)))) pa_nil)))))) (pss_one (ps_expr (pe_bm PySem.F.plainAttrs_list PySem.F.slot_list_append PySem.F.type_list_append mt_append (pv 3) (pa_cons (pe_cd T.evaluate G_evaluate (hr.mono (by omega)) (passes_call (takes_of rfl rfl rfl rfl) (fun _ _ _ _ z => z)) (pa_cons (pe_ix ix_tup (pv 0) pe_int (fun _ _ => rfl)) (pa_cons (pv 5) (pa_cons (pv 2) pa_nil)))) pa_nil)))) pss_nil)))))
      (pss_one (ps_ret (pe_cd T.bounded G_bounded (hr.mono (by omega)) (passes_call (takes_of rfl rfl rfl rfl) (fun _ _ _ _ z => z)) (pa_cons (pv 3) pa_nil)))))), ?_⟩
    have hp := ge.at_
    have rx := ge.x_
    have ry := ge.y_
    obtain ⟨w1, w2, w3, w4⟩ := ge.wf wf
    obtain ⟨d1, d2, d3⟩ := ge.dep dp
    rw [ge.ev] at q
    refine ⟨Nat.zero_le _, fun D hD => ?_⟩
    have sD := same_new hD (.lst [])
    have hDn : (upd H D (.lst [])) D ≠ none := by rw [upd_same]; simp
    refine ⟨_, rfl, p, _, 3, _, rfl, rfl, SqT.of (sD _ _ hp), rfl, _, rfl, _, rfl, u, y, d, ks, l, o, rfl, ry.same sD, (env.same sD).down (Nat.le_succ n), w3, d2, ?_⟩
    cases ey : evE o y ks l with
    | error m =>
      rw [ey] at q
      exact Bad.later q sD
    | ok z =>
      rw [ey] at q
      have gz := good_evE env.ob y ks l z w3 env.gl ey
      intro r H1 s1 f1
      have s2 := sD.trans s1
      refine ⟨r, z, rfl, f1.at_.rd, ?_⟩
      cases z with
      | lst ms =>
        have f1' := f1
        have rl := f1.at_
        cases rl with
        | @lst B xs _ hB rB =>
        dsimp only at q
        have fm := f1.lst_get hB
        have neB : B ≠ D := fun e => by
          obtain ⟨F, ow, _, f⟩ := f1
          cases ow with
          | lst _ _ =>
          have := f B (by simp)
          rw [e, upd_same] at this
          cases this
        have lB := rB.length
        have zB := sizeL_len ms
        have z3 := gz.2.2
        simp only [sizeV] at z3
        refine (if_pos (by rfl)).mpr ?_
        have fin : ∀ H2, (∃ acc ys, Same H H2 ∧ H2 D = some (.lst acc) ∧ gath (turn o x c (ks ++ [nm]) l) ms = .ok ys ∧ FreshL (upd H D (.lst [])) H2 acc ys) → AnsI a.flt H2 (match gath (turn o x c (ks ++ [nm]) l) ms with | .error m => .error m | .ok ys => mMade (.lst ys) : Res) (fun _ => ∀ H', Same H2 H' → Q (.ref D) H') E ∧ ∃ ys, gath (turn o x c (ks ++ [nm]) l) ms = .ok ys ∧ Rep (At H2) (.ref D) (.lst ys) ∧ goodL ys ∧ ys.length ≤ ms.length := by
          rintro H2 ⟨acc, ys, sH, eD, eg, fa⟩
          rw [eg] at q ⊢
          have f2 : Fresh H H2 (.ref D) (.lst ys) := fa.lst hD eD
          have gg := gath_good (fun m hm v hv => by
            unfold turn at hv
            cases c with
            | none => exact good_evE env.ob x (ks ++ [nm]) (l ++ [m]) v w2 (goodL_snoc env.gl (good_part gz hm)) (someR_some hv)
            | some c =>
              dsimp only at hv
              split at hv
              · cases hv
              · exact good_evE env.ob x (ks ++ [nm]) (l ++ [m]) v w2 (goodL_snoc env.gl (good_part gz hm)) (someR_some hv)
              · cases hv) eg
          exact ⟨made_fresh q sH f2, ys, rfl, f2.at_, gg.1, gg.2⟩
        refine ⟨B, rfl, ⟨xs, SqL.of hB⟩, for_list (K := K) (a := B) (xs := xs) (fun i σ H2 => ∃ o1 o2, σ = [some (.ref p), some (.ref d), some (.int o), some (.ref D), o1, o2] ∧ Same H H2 ∧ H2 B = some (.lst xs) ∧ FreshL (upd H D (.lst [])) H2 xs ms ∧ Gr (upd H D (.lst [])) H2 ∧ ∃ acc ys, H2 D = some (.lst acc) ∧ acc.length ≤ i ∧ gath (turn o x c (ks ++ [nm]) l) (ms.take i) = .ok ys ∧ FreshL (upd H D (.lst [])) H2 acc ys)
          ⟨none, none, rfl, s2, hB, fm, Gr.of s1, [], [], s1 _ _ upd_same, Nat.le_refl _, rfl, FreshL.nil⟩ (fun i σ H2 _ ⟨_, _, _, _, h, _⟩ => SqL.of h) ?_ ?_⟩
        · rintro i m σ H2 hi ⟨o1, o2, rfl, s3, hB2, fm2, g2, acc, ys, eD, el, et, fa⟩
          obtain ⟨mv, hm, fmv⟩ := fm2.get hi
          have gm : good mv := good_part gz (List.mem_of_getElem? hm)
          have bad : ∀ e, turn o x c (ks ++ [nm]) l mv = .error e → Bad a.flt H E e := by
            intro e he
            obtain ⟨hlt, he2⟩ := List.getElem?_eq_some_iff.mp hm
            have : ms = ms.take i ++ mv :: ms.drop (i + 1) := by
              rw [← he2]
              exact (List.take_append_drop i _).symm.trans (by rw [List.drop_eq_getElem_cons hlt])
            rw [this, gath_err _ _ he _ _ et] at q
            exact q
          refine ⟨_, rfl, d, ?_⟩
          obtain ⟨kvs, e1, e2, e3⟩ := (env.same s3).ex
          refine ⟨kvs, rfl, .inl e1, fun I hI => ?_⟩
          obtain ⟨kvs', e1', el', new, env2⟩ := (env.same s3).more hI w1 fmv.at_ gm
          rw [e1] at e1'
          cases e1'
          refine ⟨_, rfl, _, rfl, _, rfl, p, _, 2, _, rfl, rfl, SqT.of (same_new hI _ _ _ (s3 _ _ hp)), rfl, I, _, rfl, .inl ⟨kvs, .inr nm, upd_same, rfl, lt_line (by omega), rfl⟩, ?_⟩
          rw [putK_new _ new]
          have s4 : Same H2 (upd (upd H2 I (.dK kvs)) I (.dK (kvs ++ [(Sum.inr nm, m)]))) := same_mut (same_new hI _) hI _
          generalize upd (upd H2 I (.dK kvs)) I (.dK (kvs ++ [(Sum.inr nm, m)])) = H3 at s4 env2 ⊢
          have skip : ∀ H5, Same H2 H5 → turn o x c (ks ++ [nm]) l mv = .ok none → ∃ o1 o2, [some (V.ref p), some (.ref d), some (.int o), some (.ref D), some m, some (.ref I)] = [some (V.ref p), some (.ref d), some (.int o), some (.ref D), o1, o2] ∧ Same H H5 ∧ H5 B = some (.lst xs) ∧ FreshL (upd H D (.lst [])) H5 xs ms ∧ Gr (upd H D (.lst [])) H5 ∧ ∃ acc ys, H5 D = some (.lst acc) ∧ acc.length ≤ i + 1 ∧ gath (turn o x c (ks ++ [nm]) l) (ms.take (i + 1)) = .ok ys ∧ FreshL (upd H D (.lst [])) H5 acc ys := by
            intro H5 s5 ht
            refine ⟨_, _, rfl, s3.trans s5, s5 _ _ hB2, fm2.same s5, g2.trans (Gr.of s5), acc, ys, s5 _ _ eD, by omega, ?_, fa.same s5⟩
            rw [take_succ_get hm, gath_snoc _ _ _ _ et, ht]
            show Except.ok (ys ++ []) = _
            rw [List.append_nil]
          have app : ∀ (DD : Ends) H5, Same H3 H5 → turn o x c (ks ++ [nm]) l mv = someR (evE o x (ks ++ [nm]) (l ++ [mv])) → (∀ H6, (∃ o1 o2, [some (V.ref p), some (.ref d), some (.int o), some (.ref D), some m, some (.ref I)] = [some (V.ref p), some (.ref d), some (.int o), some (.ref D), o1, o2] ∧ Same H H6 ∧ H6 B = some (.lst xs) ∧ FreshL (upd H D (.lst [])) H6 xs ms ∧ Gr (upd H D (.lst [])) H6 ∧ ∃ acc ys, H6 D = some (.lst acc) ∧ acc.length ≤ i + 1 ∧ gath (turn o x c (ks ++ [nm]) l) (ms.take (i + 1)) = .ok ys ∧ FreshL (upd H D (.lst [])) H6 acc ys) → DD.nx [some (V.ref p), some (.ref d), some (.int o), some (.ref D), some m, some (.ref I)] H6) →
              tDrop (tBM K "list" rAppend (tVar 3) (tCons (tCall (spEv a.flt n) [] E (tCons (tOp (rIxT K) (tVar 0) (tC (.int 1))) (tCons (tVar 5) (tCons (tVar 2) tNil)))) tNil)) DD [some (.ref p), some (.ref d), some (.int o), some (.ref D), some m, some (.ref I)] H5 := by
            intro DD H5 s5 ht nx
            have s6 := s4.trans s5
            refine ⟨_, rfl, .inl ⟨rfl, acc, SqL.of (s6 _ _ eD)⟩, _, rfl, p, _, 1, _, rfl, rfl, SqT.of (s6 _ _ (s3 _ _ hp)), rfl, _, rfl, _, rfl, v, x, I, ks ++ [nm], l ++ [mv], o, rfl, (rx.same s3).same s6, env2.same s5, w2, d1, ?_⟩
            cases ee : evE o x (ks ++ [nm]) (l ++ [mv]) with
            | error e => exact Bad.later (bad e (by rw [ht, ee]; rfl)) (s3.trans s6)
            | ok z =>
              intro r H6 s7 f7
              have s8 := s6.trans s7
              have i200 : i < ms.length := by
                have := (List.getElem?_eq_some_iff.mp hm).1
                exact this
              refine ⟨D, acc, r, rfl, rfl, s8 _ _ eD, lt_line (by omega), nx _ ⟨_, _, rfl, same_mut (s3.trans s8) hD _, ?_, (fm2.same s8).upd hDn, (g2.trans (Gr.of s8)).upd _ _, acc ++ [r], ys ++ [z], upd_same, by simp; omega, ?_, ?_⟩⟩
              · rw [upd_ne neB]
                exact s8 _ _ hB2
              · rw [take_succ_get hm, gath_snoc _ _ _ _ et, ht, ee]
                rfl
              · exact (fa.snoc g2 (f7.back s6) s8).upd hDn
          rcases ge.c_ with ⟨ec, et'⟩ | ⟨z, ec, rc⟩
          · subst ec et'
            refine ⟨_, rfl, p, _, 4, _, rfl, rfl, SqT.of (s4 _ _ (s3 _ _ hp)), rfl, rfl, _, rfl, iteT (iteT ?_)⟩
            exact app _ H3 (Same.refl _) rfl fun H6 h => h
          · subst ec
            have tn : t ≠ .non := fun e => by
              rw [e] at rc
              cases rc
            refine ⟨_, rfl, p, _, 4, _, rfl, rfl, SqT.of (s4 _ _ (s3 _ _ hp)), rfl, rfl, _, rfl, iteE (decide_eq_false tn) ?_⟩
            refine ⟨_, rfl, p, _, 4, _, rfl, rfl, SqT.of (s4 _ _ (s3 _ _ hp)), rfl, _, rfl, _, rfl, t, z, I, ks ++ [nm], l ++ [mv], o, rfl, (rc.same s3).same s4, env2, w4 z rfl, d3 z rfl, ?_⟩
            cases ee : evE o z (ks ++ [nm]) (l ++ [mv]) with
            | error e => exact Bad.later (bad e (by simp only [turn, ee]; rfl)) (s3.trans s4)
            | ok zz =>
              intro r H5 s5 f5
              refine ⟨r, zz, rfl, f5.at_.rd, ?_⟩
              cases zz with
              | boo b =>
                cases f5.at_
                refine (if_pos (by rfl)).mpr ⟨_, rfl, ?_⟩
                cases b with
                | true => exact iteT (app _ H5 s5 (by simp only [turn, ee]; rfl) fun H6 h => h)
                | false => exact iteF (skip H5 (s4.trans s5) (by simp only [turn, ee]; rfl))
              | _ => exact (if_neg (by intro e; injection e with e; cases e)).mpr (Bad.later (bad _ (by simp only [turn, ee]; rfl)) ((s3.trans s4).trans s5))
        · rintro σ H2 ⟨o1, o2, rfl, s3, hB2, fm2, g2, acc, ys, eD, el, et, fa⟩
          rw [lB, List.take_length] at et
          obtain ⟨q1, ys', eg, rep, gl, ll⟩ := fin H2 ⟨acc, ys, s3, eD, et, fa⟩
          have y1 := goodL_size gl
          have y2 := goodL_depth gl
          rw [eg] at q1
          exact ⟨_, rfl, _, _, rfl, rep, goodL_okL gl, by simp only [depthV]; omega, by simp only [sizeV]; have : 2001 * ys'.length ≤ 2001 * 2001 := Nat.mul_le_mul_left _ (by omega); omega, q1⟩
      | _ => exact (if_neg (by intro e; injection e with e; cases e)).mpr (Bad.later q s2)
end
end K19
namespace K19
open PySem PySem.Spec PyProof.Rows L2
section
variable {P : Program} {w : World} {K : PySem.W.Frag} {mg : Str → Option Value} {base : Heap} {a : Ads}
/-- a text among texts written there -/
theorem in_strs {K : PySem.W.Frag} {H : Hp} {σ : L2.St} {i : Nat} {t : TA} {ss : List Str} {g : Str} {R : Bool → Hp → Prop} (hσ : σ[i]? = some (some (.str g))) (ht : ∀ Q : List V → Hp → Prop, Q (ss.map V.str) H → t σ H Q) (hl : ss.length ≤ 100) (b : Bool) (hb : inV (.str g) (ss.map V.str) = b) (h : ∀ H1, Same H H1 → R b H1) : tTest (tOp (rIn K false) (tVar i) (tTup t)) σ H R := by
  refine ⟨_, hσ, ht _ ⟨by rw [List.length_map]; exact le_line (by omega), fun p hp => ⟨p, _, rfl, .inr (SqT.of upd_same), rfl, ?_, _, rfl, ?_⟩⟩⟩
  · induction ss with
    | nil => rfl
    | cons x r ih => simp [flatV]
  · rw [if_neg (by decide), hb]
    exact h _ (same_new hp _)
theorem ok_evaluate (T : Txt P w K mg a) : ∀ n : Nat, FnOk P w K mg base (L2.CX P w) (60 + 3 * n) a.evaluate a.evaluate_d ["expression", "environment", "owner"] (spEv a.flt n)
  | 0 => fn_none fun vs H Q E h => by
    obtain ⟨e, ex, _, _, _, _, _, _, _, _, h, _⟩ := h
    have := depE_pos ex
    omega
  | n + 1 => by
    have G_evaluate := ok_evaluate T n
    have G_copied := ok_copied (base := base) T 20
    have G_call_function := ok_call_function (base := base) T
    have G_evaluate_all := ok_evaluate_all (base := base) T (by omega) G_evaluate
    have G_evaluate_binary := ok_evaluate_binary (base := base) T (by omega) G_evaluate
    have G_evaluate_choice := ok_evaluate_choice (base := base) T (by omega) G_evaluate
    have G_evaluate_part := ok_evaluate_part (base := base) T (by omega) G_evaluate
    have G_evaluate_made := ok_evaluate_made (base := base) T (by omega) G_evaluate
    have G_evaluate_gathering := ok_evaluate_gathering (base := base) T (by omega) G_evaluate
    have ek : 60 + 3 * (n + 1) = (62 + 3 * n) + 1 := by omega
    rw [ek]
    refine T.evaluate.F.okX sc_evaluate (fun vs H Q E h => ?_) (fun cdv A outer s H vs Q E hr h => ?_)
    · obtain ⟨e, ex, d, ks, l, o, rfl, _⟩ := h
      rfl
    · obtain ⟨e, ex, d, ks, l, o, rfl, re, env, wf, dp, q⟩ := h
      have env' : EnvOk H d ks l o n := env.down (Nat.le_succ n)
      refine ⟨_, (pss_cons (ps_set (i := 3) sc_evaluate.nd rfl (Or.inl rfl) (pe_ix ix_tup (pv 0) pe_int (fun _ _ => rfl)))
      (pss_cons (ps_if (pt_cmpR op_eq (pv 3) pe_str (nomark _)) (pss_one (ps_ret pe_non)) pss_nil)
      (pss_cons (ps_if (PW.pt (pw_or (pt_cmpR op_eq (pv 3) pe_str (nomark _)) (pw_or1 (pt_cmpR op_eq (pv 3) pe_str (nomark _))))) (pss_one (ps_ret (pe_cmpR op_eq (pv 3) pe_str (nomark _)))) pss_nil)
      (pss_cons (ps_if (PW.pt (pw_or (pt_cmpR op_eq (pv 3) pe_str (nomark _)) (pw_or1 (pt_cmpR op_eq (pv 3) pe_str (nomark _))))) (pss_one (ps_ret (pe_ix ix_tup (pv 0) pe_int (fun _ _ => rfl)))) pss_nil)
      (pss_cons (ps_if (pt_cmpR op_eq (pv 3) pe_str (nomark _)) (pss_one (ps_ret (pe_cd T.copied G_copied (hr.mono (by omega)) pass0 (pa_cons (pe_dget (hu_of hr) (pv 1) (pe_ix ix_tup (pv 0) pe_int (fun _ _ => rfl)) (fun _ _ => rfl)) pa_nil)))) pss_nil)
      (pss_cons (ps_if (pt_cmpR op_eq (pv 3) pe_str (nomark _)) (pss_one (ps_ret (pe_cd T.evaluate_binary G_evaluate_binary (hr.mono (by omega)) (passes_call (takes_of rfl rfl rfl rfl) (fun _ _ _ _ z => z)) (pa_cons (pv 0) (pa_cons (pv 1) (pa_cons (pv 2) pa_nil)))))) pss_nil)
      (pss_cons (ps_if (pt_cmpR op_eq (pv 3) pe_str (nomark _)) (pss_one (ps_ret (pe_cd T.evaluate_choice G_evaluate_choice (hr.mono (by omega)) (passes_call (takes_of rfl rfl rfl rfl) (fun _ _ _ _ z => z)) (pa_cons (pv 0) (pa_cons (pv 1) (pa_cons (pv 2) pa_nil)))))) pss_nil)
      (pss_cons (ps_if (pt_cmpR op_eq (pv 3) pe_str (nomark _)) (pss_one (ps_ret (pe_cd T.evaluate_gathering G_evaluate_gathering (hr.mono (by omega)) (passes_call (takes_of rfl rfl rfl rfl) (fun _ _ _ _ z => z)) (pa_cons (pv 0) (pa_cons (pv 1) (pa_cons (pv 2) pa_nil)))))) pss_nil)
      (pss_cons (ps_if (pt_cmpR op_eq (pv 3) pe_str (nomark _)) (pss_one (ps_ret (pe_cd T.call_function G_call_function (hr.mono (by omega)) (passes_call (takes_of rfl rfl rfl rfl) (fun _ _ _ _ z => z)) (pa_cons (pe_ix ix_tup (pv 0) pe_int (fun _ _ => rfl)) (pa_cons (pe_cd T.evaluate_all G_evaluate_all (hr.mono (by omega)) (passes_call (takes_of rfl rfl rfl rfl) (fun _ _ _ _ z => z)) (pa_cons (pe_ix ix_tup (pv 0) pe_int (fun _ _ => rfl)) (pa_cons (pv 1) (pa_cons (pv 2) pa_nil)))) pa_nil))))) pss_nil)
      (pss_cons (ps_if (pt_cmpR op_in_seq (pv 3) (pe_tup (pa_cons pe_str (pa_cons pe_str (pa_cons pe_str pa_nil)))) (by rfl)) (pss_one (ps_ret (pe_cd T.evaluate_made G_evaluate_made (hr.mono (by omega)) (passes_call (takes_of rfl rfl rfl rfl) (fun _ _ _ _ z => z)) (pa_cons (pv 0) (pa_cons (pv 1) (pa_cons (pv 2) pa_nil)))))) pss_nil)
      (pss_one (ps_ret (pe_cd T.evaluate_part G_evaluate_part (hr.mono (by omega)) (passes_call (takes_of rfl rfl rfl rfl) (fun _ _ _ _ z => z)) (pa_cons (pv 0) (pa_cons (pv 1) (pa_cons (pv 2) pa_nil)))))))))))))))), ?_⟩
      have made : ∀ {p : Addr} {xs : List V} {DD : Ends} (g : Str) (hp : H p = some (.tup (.str g :: xs))) (me : MadeE H p ex), (g = "list" ∨ g = "record" ∨ g = "act") → DD.rt = Q → ∀ σ : L2.St, σ = [some (.ref p), some (.ref d), some (.int o), some (.str g)] →
          tIfS (tTest (tOp (rIn K false) (tVar 3) (tTup (tCons (tC (.str "list")) (tCons (tC (.str "record")) (tCons (tC (.str "act")) tNil)))))) (tRet (tCall (spMade a.flt n) [] E (tCons (tVar 0) (tCons (tVar 1) (tCons (tVar 2) tNil))))) tNext DD σ H := by
        intro p xs DD g hp me hg hrt σ hσ
        subst hσ
        refine in_strs (ss := ["list", "record", "act"]) rfl (fun Q q => q) (by show 3 ≤ 100; decide) true (by rcases hg with rfl | rfl | rfl <;> rfl) fun H1 s1 => iteT ?_
        refine ⟨_, rfl, _, rfl, _, rfl, p, ex, d, ks, l, o, rfl, ?_, env'.same s1, wf, dp, by rw [hrt]; exact AnsF.from q s1⟩
        cases me with
        | lst h g r => exact .lst (s1 _ _ h) (s1 _ _ g) (r.same s1)
        | rcd h g r => exact .rcd (s1 _ _ h) (s1 _ _ g) (r.same s1)
        | act h g r => exact .act (s1 _ _ h) (s1 _ _ g) (r.same s1)
      have part : ∀ {p : Addr} {xs : List V} {v : V} {x : Ex} {r : Option (V × Ex)} {DD : Ends} (g : Str) (hp : H p = some (.tup (.str g :: xs))) (me : PartE H p ex v x r), (g = "not" ∨ g = "minus" ∨ g = "field" ∨ g = "item") → DD.rt = Q → ∀ σ : L2.St, σ = [some (.ref p), some (.ref d), some (.int o), some (.str g)] →
          tSeq (tIfS (tTest (tOp (rIn K false) (tVar 3) (tTup (tCons (tC (.str "list")) (tCons (tC (.str "record")) (tCons (tC (.str "act")) tNil)))))) (tRet (tCall (spMade a.flt n) [] E (tCons (tVar 0) (tCons (tVar 1) (tCons (tVar 2) tNil))))) tNext) (tRet (tCall (spPart a.flt n) [] E (tCons (tVar 0) (tCons (tVar 1) (tCons (tVar 2) tNil))))) DD σ H := by
        intro p xs v x r DD g hp me hg hrt σ hσ
        subst hσ
        refine in_strs (ss := ["list", "record", "act"]) rfl (fun Q q => q) (by show 3 ≤ 100; decide) false (by rcases hg with rfl | rfl | rfl | rfl <;> rfl) fun H1 s1 => iteF ?_
        refine ⟨_, rfl, _, rfl, _, rfl, p, ex, v, x, r, d, ks, l, o, rfl, ?_, env'.same s1, wf, dp, by rw [show _ = Q from hrt]; exact AnsF.from q s1⟩
        cases me with
        | nt h r => exact .nt (s1 _ _ h) (r.same s1)
        | neg h r => exact .neg (s1 _ _ h) (r.same s1)
        | fld h r => exact .fld (s1 _ _ h) (r.same s1)
        | itm h r r2 => exact .itm (s1 _ _ h) (r.same s1) (r2.same s1)
      cases re with
      | nul h => exact ⟨_, rfl, _, _, 0, _, rfl, rfl, SqT.of h, rfl, _, rfl, rfl, _, rfl, iteT (q _ _ (Same.refl H) Fresh.nul)⟩
      | boo b h =>
        refine ⟨_, rfl, _, _, 0, _, rfl, rfl, SqT.of h, rfl, _, rfl, rfl, _, rfl, ?_⟩
        cases b with
        | true => exact iteF ⟨_, rfl, rfl, _, rfl, iteT (iteT ⟨_, rfl, rfl, q _ _ (Same.refl H) (Fresh.boo _)⟩)⟩
        | false => exact iteF ⟨_, rfl, rfl, _, rfl, iteF ⟨_, rfl, rfl, _, rfl, iteT ⟨_, rfl, rfl, q _ _ (Same.refl H) (Fresh.boo _)⟩⟩⟩
      | num h =>
        refine ⟨_, rfl, _, _, 0, _, rfl, rfl, SqT.of h, rfl, _, rfl, rfl, _, rfl, iteF ⟨_, rfl, rfl, _, rfl, iteF ⟨_, rfl, rfl, _, rfl, iteF ?_⟩⟩⟩
        exact ⟨_, rfl, rfl, _, rfl, iteT (iteT ⟨_, rfl, _, _, 1, _, rfl, rfl, SqT.of h, rfl, q _ _ (Same.refl H) (Fresh.num _)⟩)⟩
      | txt h =>
        refine ⟨_, rfl, _, _, 0, _, rfl, rfl, SqT.of h, rfl, _, rfl, rfl, _, rfl, iteF ⟨_, rfl, rfl, _, rfl, iteF ⟨_, rfl, rfl, _, rfl, iteF ?_⟩⟩⟩
        exact ⟨_, rfl, rfl, _, rfl, iteF ⟨_, rfl, rfl, _, rfl, iteT ⟨_, rfl, _, _, 1, _, rfl, rfl, SqT.of h, rfl, q _ _ (Same.refl H) (Fresh.txt _)⟩⟩⟩
      | @name p nm h =>
        refine ⟨_, rfl, _, _, 0, _, rfl, rfl, SqT.of h, rfl, _, rfl, rfl, _, rfl, iteF ⟨_, rfl, rfl, _, rfl, iteF ⟨_, rfl, rfl, _, rfl, iteF ⟨_, rfl, rfl, _, rfl, iteF ⟨_, rfl, rfl, _, rfl, iteF ?_⟩⟩⟩⟩⟩
        obtain ⟨kvs, e1, e2, e3⟩ := env.ex
        have ni : nm ∈ ks := by simpa [wfE] using wf
        simp only [evE] at q
        rcases e3.val nm e2 with ⟨u, y, hu, hy, ru⟩ | ⟨hu, hy⟩
        · rw [hy] at q
          have gy := env.gl _ (getK_idx hy)
          exact ⟨_, rfl, rfl, _, rfl, iteT ⟨_, rfl, _, rfl, p, _, 1, _, rfl, rfl, SqT.of h, rfl, d, u, rfl, .inl ⟨kvs, .inr nm, .inl e1, rfl, hu.symm⟩, u, y, rfl, ru, gy.1, gy.2.1, by have := gy.2.2; omega, fun r H1 s1 f1 => q _ _ s1 f1⟩⟩
        · exfalso
          have el : ks.length = l.length := by
            have a1 := congrArg List.length e2
            have a2 := e3.length
            simp only [List.length_map] at a1 a2
            omega
          obtain ⟨z, hz⟩ := getK_some el ni
          rw [hz] at hy
          cases hy
      | @bin p g v u x y h rx ry =>
        refine ⟨_, rfl, _, _, 0, _, rfl, rfl, SqT.of h, rfl, _, rfl, rfl, _, rfl, iteF ⟨_, rfl, rfl, _, rfl, iteF ⟨_, rfl, rfl, _, rfl, iteF ⟨_, rfl, rfl, _, rfl, iteF ⟨_, rfl, rfl, _, rfl, iteF ⟨_, rfl, rfl, _, rfl, iteF ?_⟩⟩⟩⟩⟩⟩
        have wf' := wf
        simp only [wfE, Bool.and_eq_true, decide_eq_true_eq] at wf'
        simp only [depE] at dp
        exact ⟨_, rfl, rfl, _, rfl, iteT ⟨_, rfl, _, rfl, _, rfl, p, g, v, u, x, y, d, ks, l, o, rfl, h, rx, ry, env', wf, by omega, by omega, q⟩⟩
      | @cho p t v u c x y h rc rx ry =>
        refine ⟨_, rfl, _, _, 0, _, rfl, rfl, SqT.of h, rfl, _, rfl, rfl, _, rfl, iteF ⟨_, rfl, rfl, _, rfl, iteF ⟨_, rfl, rfl, _, rfl, iteF ⟨_, rfl, rfl, _, rfl, iteF ⟨_, rfl, rfl, _, rfl, iteF ⟨_, rfl, rfl, _, rfl, iteF ⟨_, rfl, rfl, _, rfl, iteF ?_⟩⟩⟩⟩⟩⟩⟩
        simp only [depE] at dp
        exact ⟨_, rfl, rfl, _, rfl, iteT ⟨_, rfl, _, rfl, _, rfl, p, t, v, u, c, x, y, d, ks, l, o, rfl, h, rc, rx, ry, env', wf, by omega, by omega, by omega, q⟩⟩
      | @gat p v u x s y h rx ry =>
        refine ⟨_, rfl, _, _, 0, _, rfl, rfl, SqT.of h, rfl, _, rfl, rfl, _, rfl, iteF ⟨_, rfl, rfl, _, rfl, iteF ⟨_, rfl, rfl, _, rfl, iteF ⟨_, rfl, rfl, _, rfl, iteF ⟨_, rfl, rfl, _, rfl, iteF ⟨_, rfl, rfl, _, rfl, iteF ⟨_, rfl, rfl, _, rfl, iteF ⟨_, rfl, rfl, _, rfl, iteF ?_⟩⟩⟩⟩⟩⟩⟩⟩
        exact ⟨_, rfl, rfl, _, rfl, iteT ⟨_, rfl, _, rfl, _, rfl, p, _, v, s, u, _, x, y, none, d, ks, l, o, rfl, .gat h rx ry, env, wf, dp, q⟩⟩
      | @gatIf p v u t x s y c h rx ry rc =>
        refine ⟨_, rfl, _, _, 0, _, rfl, rfl, SqT.of h, rfl, _, rfl, rfl, _, rfl, iteF ⟨_, rfl, rfl, _, rfl, iteF ⟨_, rfl, rfl, _, rfl, iteF ⟨_, rfl, rfl, _, rfl, iteF ⟨_, rfl, rfl, _, rfl, iteF ⟨_, rfl, rfl, _, rfl, iteF ⟨_, rfl, rfl, _, rfl, iteF ⟨_, rfl, rfl, _, rfl, iteF ?_⟩⟩⟩⟩⟩⟩⟩⟩
        exact ⟨_, rfl, rfl, _, rfl, iteT ⟨_, rfl, _, rfl, _, rfl, p, _, v, s, u, t, x, y, some c, d, ks, l, o, rfl, .gatIf h rx ry rc, env, wf, dp, q⟩⟩
      | @fn p b f xs es h g r =>
        refine ⟨_, rfl, _, _, 0, _, rfl, rfl, SqT.of h, rfl, _, rfl, rfl, _, rfl, iteF ⟨_, rfl, rfl, _, rfl, iteF ⟨_, rfl, rfl, _, rfl, iteF ⟨_, rfl, rfl, _, rfl, iteF ⟨_, rfl, rfl, _, rfl, iteF ⟨_, rfl, rfl, _, rfl, iteF ⟨_, rfl, rfl, _, rfl, iteF ⟨_, rfl, rfl, _, rfl, iteF ⟨_, rfl, rfl, _, rfl, iteF ?_⟩⟩⟩⟩⟩⟩⟩⟩⟩
        simp only [wfE, Bool.and_eq_true, decide_eq_true_eq] at wf
        simp only [depE] at dp
        simp only [evE] at q
        have ar : f.arity ≤ 3 := by cases f <;> decide
        refine ⟨_, rfl, rfl, _, rfl, iteT ⟨_, rfl, p, _, 1, _, rfl, rfl, SqT.of h, rfl, _, rfl, p, _, 2, _, rfl, rfl, SqT.of h, rfl, _, rfl, _, rfl, b, xs, es, d, ks, l, o, rfl, g, r, env', wf.2, by omega, by omega, ?_⟩⟩
        cases ee : evEs o es ks l with
        | error m =>
          rw [ee] at q
          exact q
        | ok ys =>
          rw [ee] at q
          have gg := good_evEs env.ob es ks l ys wf.2 env.gl ee
          intro D H1 s1 f1
          have rl := f1.at_
          cases rl with
          | @lst _ zs _ hB rB =>
          exact ⟨f, H, D, zs, ys, rfl, hB, Gr.of s1, f1.lst_get hB, goodL_args gg.1, gg.2.trans wf.1, AnsF.later q s1⟩
      | @lst p b xs es h g r =>
        refine ⟨_, rfl, _, _, 0, _, rfl, rfl, SqT.of h, rfl, _, rfl, rfl, _, rfl, iteF ⟨_, rfl, rfl, _, rfl, iteF ⟨_, rfl, rfl, _, rfl, iteF ⟨_, rfl, rfl, _, rfl, iteF ⟨_, rfl, rfl, _, rfl, iteF ⟨_, rfl, rfl, _, rfl, iteF ⟨_, rfl, rfl, _, rfl, iteF ⟨_, rfl, rfl, _, rfl, iteF ⟨_, rfl, rfl, _, rfl, iteF ?_⟩⟩⟩⟩⟩⟩⟩⟩⟩
        exact ⟨_, rfl, rfl, _, rfl, iteF (made "list" h (.lst h g r) (.inl rfl) rfl _ rfl)⟩
      | @rcd p b ps js es h g r =>
        refine ⟨_, rfl, _, _, 0, _, rfl, rfl, SqT.of h, rfl, _, rfl, rfl, _, rfl, iteF ⟨_, rfl, rfl, _, rfl, iteF ⟨_, rfl, rfl, _, rfl, iteF ⟨_, rfl, rfl, _, rfl, iteF ⟨_, rfl, rfl, _, rfl, iteF ⟨_, rfl, rfl, _, rfl, iteF ⟨_, rfl, rfl, _, rfl, iteF ⟨_, rfl, rfl, _, rfl, iteF ⟨_, rfl, rfl, _, rfl, iteF ?_⟩⟩⟩⟩⟩⟩⟩⟩⟩
        exact ⟨_, rfl, rfl, _, rfl, iteF (made "record" h (.rcd h g r) (.inr (.inl rfl)) rfl _ rfl)⟩
      | @act p b n xs es h g r =>
        refine ⟨_, rfl, _, _, 0, _, rfl, rfl, SqT.of h, rfl, _, rfl, rfl, _, rfl, iteF ⟨_, rfl, rfl, _, rfl, iteF ⟨_, rfl, rfl, _, rfl, iteF ⟨_, rfl, rfl, _, rfl, iteF ⟨_, rfl, rfl, _, rfl, iteF ⟨_, rfl, rfl, _, rfl, iteF ⟨_, rfl, rfl, _, rfl, iteF ⟨_, rfl, rfl, _, rfl, iteF ⟨_, rfl, rfl, _, rfl, iteF ?_⟩⟩⟩⟩⟩⟩⟩⟩⟩
        exact ⟨_, rfl, rfl, _, rfl, iteF (made "act" h (.act h g r) (.inr (.inr rfl)) rfl _ rfl)⟩
      | @nt p v x h r =>
        refine ⟨_, rfl, _, _, 0, _, rfl, rfl, SqT.of h, rfl, _, rfl, rfl, _, rfl, iteF ⟨_, rfl, rfl, _, rfl, iteF ⟨_, rfl, rfl, _, rfl, iteF ⟨_, rfl, rfl, _, rfl, iteF ⟨_, rfl, rfl, _, rfl, iteF ⟨_, rfl, rfl, _, rfl, iteF ⟨_, rfl, rfl, _, rfl, iteF ⟨_, rfl, rfl, _, rfl, iteF ⟨_, rfl, rfl, _, rfl, iteF ?_⟩⟩⟩⟩⟩⟩⟩⟩⟩
        exact ⟨_, rfl, rfl, _, rfl, iteF (part "not" h (.nt h r) (.inl rfl) rfl _ rfl)⟩
      | @neg p v x h r =>
        refine ⟨_, rfl, _, _, 0, _, rfl, rfl, SqT.of h, rfl, _, rfl, rfl, _, rfl, iteF ⟨_, rfl, rfl, _, rfl, iteF ⟨_, rfl, rfl, _, rfl, iteF ⟨_, rfl, rfl, _, rfl, iteF ⟨_, rfl, rfl, _, rfl, iteF ⟨_, rfl, rfl, _, rfl, iteF ⟨_, rfl, rfl, _, rfl, iteF ⟨_, rfl, rfl, _, rfl, iteF ⟨_, rfl, rfl, _, rfl, iteF ?_⟩⟩⟩⟩⟩⟩⟩⟩⟩
        exact ⟨_, rfl, rfl, _, rfl, iteF (part "minus" h (.neg h r) (.inr (.inl rfl)) rfl _ rfl)⟩
      | @fld p s v x h r =>
        refine ⟨_, rfl, _, _, 0, _, rfl, rfl, SqT.of h, rfl, _, rfl, rfl, _, rfl, iteF ⟨_, rfl, rfl, _, rfl, iteF ⟨_, rfl, rfl, _, rfl, iteF ⟨_, rfl, rfl, _, rfl, iteF ⟨_, rfl, rfl, _, rfl, iteF ⟨_, rfl, rfl, _, rfl, iteF ⟨_, rfl, rfl, _, rfl, iteF ⟨_, rfl, rfl, _, rfl, iteF ⟨_, rfl, rfl, _, rfl, iteF ?_⟩⟩⟩⟩⟩⟩⟩⟩⟩
        exact ⟨_, rfl, rfl, _, rfl, iteF (part "field" h (.fld h r) (.inr (.inr (.inl rfl))) rfl _ rfl)⟩
      | @itm p v u x y h r r2 =>
        refine ⟨_, rfl, _, _, 0, _, rfl, rfl, SqT.of h, rfl, _, rfl, rfl, _, rfl, iteF ⟨_, rfl, rfl, _, rfl, iteF ⟨_, rfl, rfl, _, rfl, iteF ⟨_, rfl, rfl, _, rfl, iteF ⟨_, rfl, rfl, _, rfl, iteF ⟨_, rfl, rfl, _, rfl, iteF ⟨_, rfl, rfl, _, rfl, iteF ⟨_, rfl, rfl, _, rfl, iteF ⟨_, rfl, rfl, _, rfl, iteF ?_⟩⟩⟩⟩⟩⟩⟩⟩⟩
        exact ⟨_, rfl, rfl, _, rfl, iteF (part "item" h (.itm h r r2) (.inr (.inr (.inr rfl))) rfl _ rfl)⟩
end
end K19
/-! The law's own evaluator: kinds, parts, measures. -/
namespace K19
open PySem PySem.Spec PyProof.Rows L2
theorem sc_l_kind : FnScope nm_l_kind ["_law_value_here"] (defScope s_l_kind) := ⟨rfl, rfl, rfl, by decide +kernel, rfl, by decide +kernel, by decide +kernel⟩
theorem sc_l_parts : FnScope nm_l_parts ["_law_value_here"] (defScope s_l_parts) := ⟨rfl, rfl, rfl, by decide +kernel, rfl, by decide +kernel, by decide +kernel⟩
theorem sc_l_depth : FnScope nm_l_depth ["_law_value_here"] (defScope s_l_depth) := ⟨rfl, rfl, rfl, by decide +kernel, rfl, by decide +kernel, by decide +kernel⟩
theorem sc_l_size : FnScope nm_l_size ["_law_value_here"] (defScope s_l_size) := ⟨rfl, rfl, rfl, by decide +kernel, rfl, by decide +kernel, by decide +kernel⟩
theorem sc_l_text_of : FnScope nm_l_text_of ["_law_value_here"] (defScope s_l_text_of) := ⟨rfl, rfl, rfl, by decide +kernel, rfl, by decide +kernel, by decide +kernel⟩

/-- a comprehension whose items come out as known -/
theorem lc_out {J : It} {n : Nat} {G : Hp → Prop} {Y : Nat → V → Prop} (w : Walk J n G (fun i H x H' => H' = H ∧ Y i x)) {te : TE} {vs : List Nat} {j : Nat} {σ : L2.St} {H : Hp} {D : Addr} {Qd : Hp → Prop} {out : List V}
    (hD : H D = none) (hl : out.length = n) (hn : n ≤ 9000000) (hG : ∀ H1, Same H H1 → G H1) (hw : ∀ y, wipe ((wipe σ vs).set j (some y)) vs = wipe σ vs)
    (hs : ∀ i y x H1 (Q' : VK), out[i]? = some x → Same H H1 → Y i y → (∀ H3, Same H1 H3 → Q' x H3) → te ((wipe σ vs).set j (some y)) H1 Q')
    (hd : ∀ H1, Same H H1 → H1 D = some (.lst out) → Qd H1) :
    ∃ W : Nat → Nat → Hp → Prop, (∃ m, W 0 m (upd H D (.lst []))) ∧ ∀ i m H, W i m H →
      (J.stop i H ∧ Qd H) ∨ (J.go i H ∧ ∃ Nx : Hp → Prop, (∀ H', Nx H' → ∃ m', m' < m ∧ W (i + 1) m' H') ∧ ∀ x H', J.yld i H x H' → gName j x (wipe σ vs) H' fun σ2 H2 => wipe σ2 vs = wipe σ vs ∧ tYes σ2 H2 fun b H3 =>
        if b = true then te σ2 H3 fun z H4 => ∃ xs, H4 D = some (.lst xs) ∧ xs.length < sizeLine ∧ Nx (upd H4 D (.lst (xs ++ [z]))) else Nx H3) := by
  refine lc_it w (fun i H1 => Same H H1 ∧ H1 D = some (.lst (out.take i))) ⟨same_new hD _, upd_same⟩ (fun i H1 _ z => hG H1 z.1) ?_ ?_
  · rintro i y H1 H2 hi ⟨s1, e1⟩ ⟨rfl, hy⟩
    obtain ⟨x, hx⟩ := getD_some (l := out) (by omega : i < out.length)
    refine ⟨hw y, ?_⟩
    simp only [tYes, if_true]
    refine hs i y x H2 _ hx s1 hy fun H3 s3 => ?_
    refine ⟨_, s3 _ _ e1, lt_line (by rw [List.length_take]; omega), same_mut (s1.trans s3) hD _, ?_⟩
    rw [upd_same, take_succ_get hx]
  · rintro H1 ⟨s1, e1⟩
    rw [← hl, List.take_length] at e1
    exact hd H1 s1 e1
section
variable {P : Program} {w : World} {K : PySem.W.Frag} {mg : Str → Option Value} {base : Heap} {a : Ads}
theorem ok_l_kind (T : Txt P w K mg a) : FnOk P w K mg base CX0 1 a.l_kind a.l_kind_d ["_law_value_here"] spKind := by
  refine T.l_kind.F.ok sc_l_kind (fun vs H Q E h => ?_) (fun cdv A outer s H vs Q E hr h => ?_)
  · obtain ⟨v, x, rfl, _⟩ := h
    rfl
  · obtain ⟨v, x, rfl, rep, q⟩ := h
    refine ⟨_, (pss_cons (ps_if (pt_cmpR op_isN (pv 0) pe_non (nomark _)) (pss_one (ps_ret pe_str)) pss_nil)
      (pss_cons (ps_if (pt_val (pe_callB call_isV rfl T.b_isinstance (by decide +kernel) (pa_cons (pv 0) (pa_cons (pe_bltn (v := .ty "bool") (u := .type "bool") rfl T.b_bool (by decide +kernel) rfl) pa_nil)))) (pss_one (ps_ret pe_str)) pss_nil)
      (pss_cons (ps_if (pt_val (pe_callB call_isV rfl T.b_isinstance (by decide +kernel) (pa_cons (pv 0) (pa_cons (pe_bltn (v := .ty "int") (u := .type "int") rfl T.b_int (by decide +kernel) rfl) pa_nil)))) (pss_one (ps_ret pe_str)) pss_nil)
      (pss_cons (ps_if (pt_val (pe_callB call_isV rfl T.b_isinstance (by decide +kernel) (pa_cons (pv 0) (pa_cons (pe_bltn (v := .ty "str") (u := .type "str") rfl T.b_str (by decide +kernel) rfl) pa_nil)))) (pss_one (ps_ret pe_str)) pss_nil)
      (pss_cons (ps_if (pt_val (pe_callB call_isV rfl T.b_isinstance (by decide +kernel) (pa_cons (pv 0) (pa_cons (pe_bltn (v := .ty "list") (u := .type "list") rfl T.b_list (by decide +kernel) rfl) pa_nil)))) (pss_one (ps_ret pe_str)) pss_nil)
      (pss_cons (ps_if (pt_val (pe_callB call_isV rfl T.b_isinstance (by decide +kernel) (pa_cons (pv 0) (pa_cons (pe_bltn (v := .ty "dict") (u := .type "dict") rfl T.b_dict (by decide +kernel) rfl) pa_nil)))) (pss_one (ps_ret pe_str)) pss_nil)
      (pss_cons (ps_if (PW.pt (pw_and (pt_val (pe_callB call_isV rfl T.b_isinstance (by decide +kernel) (pa_cons (pv 0) (pa_cons (pe_bltn (v := .ty "tuple") (u := .type "tuple") rfl T.b_tuple (by decide +kernel) rfl) pa_nil)))) (pw_and (pt_cmpR op_eq (pe_callB call_lenV rfl T.b_len (by decide +kernel) (pa_cons (pv 0) pa_nil)) pe_int (nomark _)) (pw_and1 (pt_cmpR op_eq (pe_ix ix_tup (pv 0) pe_int (fun _ _ => rfl)) pe_str (nomark _)))))) (pss_one (ps_ret pe_str)) pss_nil)
      (pss_one (ps_ret pe_str))))))))), ?_⟩
    have isT : ∀ (Tn : Cl) (R : Bool → Hp → Prop), R (isV x Tn) H → tTest (tCB rIsV (tCons (tVar 0) (tCons (tC (.ty Tn.nm)) tNil))) [some v] H R := fun Tn R h => ⟨_, rfl, v, x, Tn, rfl, rep, _, rfl, h⟩
    cases rep with
    | nul => exact ⟨_, rfl, rfl, _, rfl, iteT q⟩
    | boo b => exact ⟨_, rfl, rfl, _, rfl, iteF ⟨_, rfl, _, .boo b, .bool, rfl, .boo b, _, rfl, iteT q⟩⟩
    | num i => exact ⟨_, rfl, rfl, _, rfl, iteF ⟨_, rfl, _, .num i, .bool, rfl, .num i, _, rfl, iteF ⟨_, rfl, _, .num i, .int, rfl, .num i, _, rfl, iteT q⟩⟩⟩
    | txt z => exact ⟨_, rfl, rfl, _, rfl, iteF ⟨_, rfl, _, .txt z, .bool, rfl, .txt z, _, rfl, iteF ⟨_, rfl, _, .txt z, .int, rfl, .txt z, _, rfl, iteF ⟨_, rfl, _, .txt z, .str, rfl, .txt z, _, rfl, iteT q⟩⟩⟩⟩
    | lst h r =>
      have rr := Rep.lst h r
      exact ⟨_, rfl, rfl, _, rfl, iteF ⟨_, rfl, _, _, .bool, rfl, rr, _, rfl, iteF ⟨_, rfl, _, _, .int, rfl, rr, _, rfl, iteF ⟨_, rfl, _, _, .str, rfl, rr, _, rfl, iteF ⟨_, rfl, _, _, .list, rfl, rr, _, rfl, iteT q⟩⟩⟩⟩⟩
    | rcd h k r =>
      have rr := Rep.rcd h k r
      exact ⟨_, rfl, rfl, _, rfl, iteF ⟨_, rfl, _, _, .bool, rfl, rr, _, rfl, iteF ⟨_, rfl, _, _, .int, rfl, rr, _, rfl, iteF ⟨_, rfl, _, _, .str, rfl, rr, _, rfl, iteF ⟨_, rfl, _, _, .list, rfl, rr, _, rfl, iteF ⟨_, rfl, _, _, .dict, rfl, rr, _, rfl, iteT q⟩⟩⟩⟩⟩⟩
    | act h g r =>
      have rr := Rep.act h g r
      refine ⟨_, rfl, rfl, _, rfl, iteF ⟨_, rfl, _, _, .bool, rfl, rr, _, rfl, iteF ⟨_, rfl, _, _, .int, rfl, rr, _, rfl, iteF ⟨_, rfl, _, _, .str, rfl, rr, _, rfl, iteF ⟨_, rfl, _, _, .list, rfl, rr, _, rfl, iteF ⟨_, rfl, _, _, .dict, rfl, rr, _, rfl, iteF ?_⟩⟩⟩⟩⟩⟩
      refine ⟨_, rfl, _, _, .tuple, rfl, rr, _, rfl, iteT ⟨_, rfl, _, _, rfl, rr, rfl, by show 4 ≤ 10000000; decide, rfl, _, rfl, iteT ⟨_, rfl, _, _, 0, _, rfl, rfl, .inl h, rfl, rfl, _, rfl, iteT q⟩⟩⟩
theorem ok_l_parts (T : Txt P w K mg a) : FnOk P w K mg base CX0 2 a.l_parts a.l_parts_d ["_law_value_here"] spParts := by
  have G_l_kind := ok_l_kind (base := base) T
  refine T.l_parts.F.ok sc_l_parts (fun vs H Q E h => ?_) (fun cdv A outer s H vs Q E hr h => ?_)
  · obtain ⟨v, x, rfl, _⟩ := h
    rfl
  · obtain ⟨v, x, rfl, rep, hok, hz, q⟩ := h
    refine ⟨_, (pss_cons (ps_set (i := 1) sc_l_parts.nd rfl (Or.inl rfl) (pe_cd T.l_kind G_l_kind (hr.mono (by omega)) pass0 (pa_cons (pv 0) pa_nil)))
      (pss_cons (ps_if (pt_cmpR op_eq (pv 1) pe_str (nomark _)) (pss_one (ps_ret (pv 0))) pss_nil)
      (pss_cons (ps_if (pt_cmpR op_eq (pv 1) pe_str (nomark _)) (pss_one (ps_ret (pe_lock (pe_lc (own := [("_law_name", 2)]) (g := gName 2) rfl sc_l_parts.nd (pi_keys (pv 0)) (blkOk_by (own := [("_law_name", 2)]) (N := nm_l_parts) (sc := defScope s_l_parts) (by decide +kernel)) (fun _ _ _ _ _ => pg_name (i := 2) sc_l_parts.nd rfl (Or.inl rfl)) (fun _ _ _ _ _ => pts_nil) (fun _ _ _ _ _ => (pe_dget (hu_of hr) (pv 0) (pv 2) (fun _ _ => rfl))))))) pss_nil)
      (pss_cons (ps_if (pt_cmpR op_eq (pv 1) pe_str (nomark _)) (pss_one (ps_ret (pe_ix ix_tup (pv 0) pe_int (fun _ _ => rfl)))) pss_nil)
      (pss_one (ps_ret (pe_lst pa_nil))))))), ?_⟩
    refine ⟨_, rfl, v, x, rfl, rep.rd, ?_⟩
    cases rep with
    | lst h r =>
      refine ⟨_, rfl, rfl, _, rfl, iteT ?_⟩
      exact ⟨_, rfl, q _ _ _ (Same.refl H) h r⟩
    | @rcd d kvs ks l h k r =>
      refine ⟨_, rfl, rfl, _, rfl, iteF ?_⟩
      refine ⟨_, rfl, rfl, _, rfl, iteT ?_⟩
      have hl : kvs.length = l.length := by rw [← r.length, List.length_map]
      have hz' : l.length ≤ 9000000 := Nat.le_trans (sizeL_len l) hz
      refine ⟨d, _, h, trivial, fun od => ?_⟩
      refine ⟨_, rfl, d, od, rfl, .inl ⟨kvs, upd_same, fun D hD => ?_⟩⟩
      refine lc_it walk_keys (fun i H1 => Same (upd H d (.frz od (.dK kvs))) H1 ∧ H1 D = some (.lst ((kvs.take i).map (·.2)))) ⟨same_new hD _, upd_same⟩ (fun i H1 _ z => z.1 _ _ upd_same) ?_ ?_
      · rintro i y H1 H2 hi ⟨s1, e1⟩ ⟨rfl, k', v', hk, rfl⟩
        refine ⟨rfl, ?_⟩
        refine ⟨_, rfl, _, rfl, d, v', rfl, .inl ⟨kvs, k', .inr ⟨od, s1 _ _ upd_same⟩, rfl, (valV_at (nd_keys k (ok_rcd hok).1) hk).symm⟩, _, e1, lt_line (by rw [List.length_map, List.length_take]; omega), ?_, ?_⟩
        · exact same_mut s1 hD _
        · rw [upd_same, take_succ_get hk, List.map_append]
          rfl
      · rintro H1 ⟨s1, e1⟩
        refine ⟨s1 _ _ upd_same, ?_⟩
        have ne : D ≠ d := fun z => by
          rw [z, s1 _ _ upd_same] at e1
          cases e1
        have s2 := unlock_same h s1
        refine q D _ _ s2 (by rw [upd_ne ne, e1, List.take_length]) (r.same s2)
    | act h g r =>
      refine ⟨_, rfl, rfl, _, rfl, iteF ?_⟩
      refine ⟨_, rfl, rfl, _, rfl, iteF ?_⟩
      refine ⟨_, rfl, rfl, _, rfl, iteT ?_⟩
      exact ⟨_, rfl, _, _, _, _, rfl, rfl, SqT.of h, rfl, q _ _ _ (Same.refl H) g r⟩
    | _ =>
      refine ⟨_, rfl, rfl, _, rfl, iteF ?_⟩
      refine ⟨_, rfl, rfl, _, rfl, iteF ?_⟩
      refine ⟨_, rfl, rfl, _, rfl, iteF ?_⟩
      refine ⟨Nat.zero_le _, fun p hp => ?_⟩
      exact q _ _ _ (same_new hp _) upd_same .nil
end
end K19
namespace K19
open PySem PySem.Spec PyProof.Rows L2
/-- a text among texts written there -/
theorem in_tup {K : PySem.W.Frag} {H : Hp} {σ : L2.St} {t : TA} {ss : List Str} {g : Str} {neg : Bool} {R : VK} (ht : ∀ Q : List V → Hp → Prop, Q (ss.map V.str) H → t σ H Q) (hl : ss.length ≤ 100) (b : Bool) (hb : inV (.str g) (ss.map V.str) = b) (h : ∀ H1, Same H H1 → R (.bl (if neg = true then !b else b)) H1) : (tTup t) σ H fun y H2 => rIn K neg (.str g) y H2 R := by
  refine ht _ ⟨by rw [List.length_map]; exact le_line (by omega), fun p hp => ⟨p, _, rfl, .inr (SqT.of upd_same), rfl, ?_, ?_⟩⟩
  · induction ss with
    | nil => rfl
    | cons x r ih => simp [flatV]
  · rw [hb]
    exact h _ (same_new hp _)
theorem max_depth {l : List Val} {m : Int} (hm : m ∈ (0 : Int) :: l.map fun x => (depthV x : Int)) (h : ∀ y ∈ (0 : Int) :: l.map fun x => (depthV x : Int), y ≤ m) : m = (depthL l : Int) := by
  have h1 : (depthL l : Int) ≤ m := by
    have h0 := h 0 (by simp)
    have h2 : ∀ x ∈ l, (depthV x : Int) ≤ m := fun x hx => h _ (List.mem_cons_of_mem _ (List.mem_map.mpr ⟨x, hx, rfl⟩))
    clear h hm
    induction l with
    | nil => exact h0
    | cons x r ih =>
      have := h2 x (by simp)
      have := ih fun y hy => h2 y (List.mem_cons_of_mem _ hy)
      simp only [depthL]
      omega
  have h2 : m ≤ (depthL l : Int) := by
    rcases List.mem_cons.mp (hm : _ ∈ _ :: _) with e | e
    · omega
    · obtain ⟨x, hx, e⟩ := List.mem_map.mp e
      have := depthL_mem hx
      omega
  omega
theorem sum_size (l : List Val) : (l.map fun x => (sizeV x : Int)).sum = (sizeL l : Int) := by
  induction l with
  | nil => rfl
  | cons x r ih =>
    simp only [List.map_cons, List.sum_cons, ih, sizeL]
    omega
theorem glued_len (ks : List Str) : (Txt.join ("" : Str) ks).length = lens ks := by
  have h : ∀ (l : List Str) (acc : Array Nat), (l.foldl (fun r (x : Str) => r ++ ("" : Str).cps ++ x.cps) acc).size = acc.size + lens l := by
    intro l
    induction l with
    | nil => intro acc; simp [lens]
    | cons x r ih =>
      intro acc
      rw [List.foldl_cons, ih, Array.size_append, Array.size_append, lens]
      show acc.size + 0 + x.length + lens r = _
      omega
  cases ks with
  | nil => rfl
  | cons x r => exact h r x.cps
theorem sum_lens (ks : List Str) : (ks.map (·.length)).sum = lens ks := by
  induction ks with
  | nil => rfl
  | cons k r ih => simp only [List.map_cons, List.sum_cons, ih, lens]
section
variable {P : Program} {w : World} {K : PySem.W.Frag} {mg : Str → Option Value} {base : Heap} {a : Ads}
def isBig : Val → Bool
  | .lst _ => true
  | .rcd _ _ => true
  | .act _ _ _ => true
  | _ => false
theorem in_big (x : Val) : inV (.str (kindN x)) [.str "list", .str "record", .str "act"] = isBig x := by
  cases x <;> kernel_rfl
theorem ok_l_depth (T : Txt P w K mg a) : ∀ n : Nat, FnOk P w K mg base CX0 (n + 3) a.l_depth a.l_depth_d ["_law_value_here"] (spDepth n)
  | 0 => fn_none fun vs H Q E h => by
    obtain ⟨v, x, _, _, _, h, _⟩ := h
    have := depthV_pos x
    omega
  | n + 1 => by
    have G_l_kind := ok_l_kind (base := base) T
    have G_l_parts := ok_l_parts (base := base) T
    have G_l_depth := ok_l_depth T n
    refine T.l_depth.F.ok sc_l_depth (fun vs H Q E h => ?_) (fun cdv A outer s H vs Q E hr h => ?_)
    · obtain ⟨v, x, rfl, _⟩ := h
      rfl
    · obtain ⟨v, x, rfl, rep, hok, hd, hz, q⟩ := h
      refine ⟨_, (pss_cons (ps_if (pt_cmpR op_notIn_seq (pe_cd T.l_kind G_l_kind (hr.mono (by omega)) pass0 (pa_cons (pv 0) pa_nil)) (pe_tup (pa_cons pe_str (pa_cons pe_str (pa_cons pe_str pa_nil)))) (by rfl)) (pss_one (ps_ret pe_int)) pss_nil)
      (pss_one (ps_ret (pe_op op_add pe_int (pe_callB (cr_max rfl) rfl T.b_max (by decide +kernel) (pa_cons (pe_op op_cat (pe_lst (pa_cons pe_int pa_nil)) (pe_lc (own := [("_law_part", 1)]) (g := gName 1) rfl sc_l_depth.nd (pi_list (pe_cd T.l_parts G_l_parts (hr.mono (by omega)) pass0 (pa_cons (pv 0) pa_nil))) (blkOk_by (own := [("_law_part", 1)]) (N := nm_l_depth) (sc := defScope s_l_depth) (by decide +kernel)) (fun _ _ _ _ _ => pg_name (i := 1) sc_l_depth.nd rfl (Or.inl rfl)) (fun _ _ _ _ _ => pts_nil) (fun _ _ _ _ _ => (pe_cd T.l_depth G_l_depth (hr.mono (by omega)) pass0 (pa_cons (pv 1) pa_nil))))) pa_nil)))))), ?_⟩
      refine ⟨_, rfl, v, x, rfl, rep.rd, in_tup (ss := ["list", "record", "act"]) (fun Q q => q) (by show 3 ≤ 100; decide) _ (in_big x) fun H1 s1 => ?_⟩
      have hzp := sizeP x
      have hdp := depth_parts x
      cases c : isBig x with
      | false =>
        refine ⟨_, rfl, iteT ?_⟩
        have e : depthV x = 1 := by cases x <;> first | rfl | cases c
        have := q H1 s1
        rw [e] at this
        exact this
      | true =>
        refine ⟨_, rfl, iteF ?_⟩
        refine ⟨by show 1 ≤ sizeLine; decide, fun p0 hp0 => ?_⟩
        have s2 := same_snoc s1 hp0 (.lst [.int 0])
        refine ⟨_, rfl, v, x, rfl, rep.same s2, hok, by omega, fun p xs H3 s3 e3 r3 => ⟨p, rfl, ⟨xs, SqL.of e3⟩, fun D hD => ?_⟩⟩
        have ln := r3.length
        have lz := sizeL_len (partsV x)
        refine lc_out (out := (partsV x).map fun x => V.int (depthV x)) walk_list hD (by rw [List.length_map, ln]) (by rw [ln]; omega) (fun H4 s4 => s4.seq (SqL.of e3)) (fun _ => rfl) ?_ ?_
        · intro i y z H4 Q' hz' s4 hy q'
          obtain ⟨x', hx', rx⟩ := r3.get hy
          rw [List.getElem?_map, hx'] at hz'
          cases hz'
          have mx := List.mem_of_getElem? hx'
          exact ⟨_, rfl, y, x', rfl, rx.same s4, okL_mem (ok_parts hok) mx, by have := depthL_mem mx; omega, by have := sizeL_mem mx; omega, q'⟩
        · intro H4 s4 e4
          have s5 : Same H H4 := (s2.trans s3).trans s4
          refine ⟨p0, D, _, _, rfl, rfl, s4 _ _ (s3 _ _ upd_same), e4, le_line (by rw [List.length_map]; show 1 + _ ≤ _; omega), fun t ht => ?_⟩
          refine ⟨t, (0 : Int) :: (partsV x).map fun x => (depthV x : Int), rfl, SqL.of (by rw [upd_same, List.map_cons, List.map_map]; rfl), by simp, fun m hm hmax => ?_⟩
          have em := max_depth hm hmax
          subst em
          refine ⟨_, _, rfl, rfl, ?_⟩
          have := q _ (same_snoc s5 ht (.lst ([.int 0] ++ (partsV x).map fun x => V.int (depthV x))))
          rw [hdp] at this
          have e : (1 + (depthL (partsV x) : Int)) = ((depthL (partsV x) + 1 : Nat) : Int) := by omega
          show Q (.int (1 + (depthL (partsV x) : Int))) _
          rw [e]
          exact this
theorem ok_l_size (T : Txt P w K mg a) : ∀ n : Nat, FnOk P w K mg base CX0 (n + 3) a.l_size a.l_size_d ["_law_value_here"] (spSize n)
  | 0 => fn_none fun vs H Q E h => by
    obtain ⟨v, x, _, _, _, h, _⟩ := h
    have := depthV_pos x
    omega
  | n + 1 => by
    have G_l_kind := ok_l_kind (base := base) T
    have G_l_parts := ok_l_parts (base := base) T
    have G_l_size := ok_l_size T n
    refine T.l_size.F.ok sc_l_size (fun vs H Q E h => ?_) (fun cdv A outer s H vs Q E hr h => ?_)
    · obtain ⟨v, x, rfl, _⟩ := h
      rfl
    · obtain ⟨v, x, rfl, rep, hok, hd, hz, q⟩ := h
      refine ⟨_, (pss_cons (ps_set (i := 1) sc_l_size.nd rfl (Or.inl rfl) (pe_cd T.l_kind G_l_kind (hr.mono (by omega)) pass0 (pa_cons (pv 0) pa_nil)))
      (pss_cons (ps_set (i := 2) sc_l_size.nd rfl (Or.inl rfl) pe_int)
      (pss_cons (ps_if (pt_cmpR op_eq (pv 1) pe_str (nomark _)) (pss_one (ps_set (i := 2) sc_l_size.nd rfl (Or.inl rfl) (pe_op op_add pe_int (pe_callB call_lenV rfl T.b_len (by decide +kernel) (pa_cons (pv 0) pa_nil))))) pss_nil)
      (pss_cons (ps_if (pt_cmpR op_eq (pv 1) pe_str (nomark _)) (pss_one (ps_set (i := 2) sc_l_size.nd rfl (Or.inl rfl) (pe_op op_add pe_int (pe_callB call_lenV rfl T.b_len (by decide +kernel) (pa_cons (pe_join pe_str (pe_lock (pe_lc (own := [("_law_name", 4)]) (g := gName 4) rfl sc_l_size.nd (pi_keys (pv 0)) (blkOk_by (own := [("_law_name", 4)]) (N := nm_l_size) (sc := defScope s_l_size) (by decide +kernel)) (fun _ _ _ _ _ => pg_name (i := 4) sc_l_size.nd rfl (Or.inl rfl)) (fun _ _ _ _ _ => pts_nil) (fun _ _ _ _ _ => (pv 4))))) pa_nil))))) pss_nil)
      (pss_cons (ps_if (pt_cmpR op_eq (pv 1) pe_str (nomark _)) (pss_one (ps_set (i := 2) sc_l_size.nd rfl (Or.inl rfl) (pe_op op_add pe_int (pe_callB call_lenV rfl T.b_len (by decide +kernel) (pa_cons (pe_ix ix_tup (pv 0) pe_int (fun _ _ => rfl)) pa_nil))))) pss_nil)
      (pss_one (ps_ret (pe_op op_add (pv 2) (pe_callB (cr_sum rfl) rfl T.b_sum (by decide +kernel) (pa_cons (pe_lc (own := [("_law_part", 3)]) (g := gName 3) rfl sc_l_size.nd (pi_list (pe_cd T.l_parts G_l_parts (hr.mono (by omega)) pass0 (pa_cons (pv 0) pa_nil))) (blkOk_by (own := [("_law_part", 3)]) (N := nm_l_size) (sc := defScope s_l_size) (by decide +kernel)) (fun _ _ _ _ _ => pg_name (i := 3) sc_l_size.nd rfl (Or.inl rfl)) (fun _ _ _ _ _ => pts_nil) (fun _ _ _ _ _ => (pe_cd T.l_size G_l_size (hr.mono (by omega)) pass0 (pa_cons (pv 3) pa_nil)))) pa_nil)))))))))), ?_⟩
      have hzp := sizeP x
      have hdp := depth_parts x
      refine ⟨_, rfl, v, x, rfl, rep.rd, ?_⟩
      have fin : ∀ (own : Int) (H1 : Hp), Same H H1 → own + (sizeL (partsV x) : Int) = ((sizeV x : Nat) : Int) →
          tRet (tOp (rI0 fun i j => V.int (i + j)) (tVar 2) (tCB (rSum K) (tCons (tLc (iList K (tCall spParts [] E0 (tCons (tVar 0) tNil))) (gName 3) tYes (tCall (spSize n) [] E0 (tCons (tVar 3) tNil)) [3]) tNil))) { nx := fun x H' => Q V.non H', rt := Q } [some v, some (.str (kindN x)), some (.int own), none, none] H1 := by
        intro own H1 s1 eo
        refine ⟨_, rfl, _, rfl, v, x, rfl, rep.same s1, hok, by omega, fun p xs H3 s3 e3 r3 => ⟨p, rfl, ⟨xs, SqL.of e3⟩, fun D hD => ?_⟩⟩
        have ln := r3.length
        have lz := sizeL_len (partsV x)
        refine lc_out (out := (partsV x).map fun x => V.int (sizeV x)) walk_list hD (by rw [List.length_map, ln]) (by rw [ln]; omega) (fun H4 s4 => s4.seq (SqL.of e3)) (fun _ => rfl) ?_ ?_
        · intro i y z H4 Q' hz' s4 hy q'
          obtain ⟨x', hx', rx⟩ := r3.get hy
          rw [List.getElem?_map, hx'] at hz'
          cases hz'
          have mx := List.mem_of_getElem? hx'
          exact ⟨_, rfl, y, x', rfl, rx.same s4, okL_mem (ok_parts hok) mx, by have := depthL_mem mx; omega, by have := sizeL_mem mx; omega, q'⟩
        · intro H4 s4 e4
          have s5 : Same H H4 := (s1.trans s3).trans s4
          refine ⟨D, (partsV x).map fun x => (sizeV x : Int), rfl, SqL.of (by rw [e4, List.map_map]; rfl), _, _, rfl, rfl, ?_⟩
          rw [sum_size]
          show Q (.int (own + (sizeL (partsV x) : Int))) _
          rw [eo]
          exact q _ s5
      cases rep with
      | txt z =>
        refine ⟨_, rfl, rfl, _, rfl, iteT ⟨_, rfl, _, .txt z, rfl, .txt z, rfl, by simp only [sizeV] at hz; show z.length ≤ _; omega, _, _, rfl, rfl, ?_⟩⟩
        refine ⟨_, rfl, rfl, _, rfl, iteF ⟨_, rfl, rfl, _, rfl, iteF ?_⟩⟩
        exact fin _ H (Same.refl H) (by simp only [lenV, sizeV, partsV, sizeL]; omega)
      | @rcd d kvs ks l h k r =>
        refine ⟨_, rfl, rfl, _, rfl, iteF ⟨_, rfl, rfl, _, rfl, iteT ?_⟩⟩
        have hlk : kvs.length = ks.length := by simpa using congrArg List.length k
        have h40 := (ok_rcd hok).2.2.1
        simp only [sizeV] at hz
        refine ⟨⟨_, rfl⟩, d, _, h, trivial, fun od => ?_⟩
        refine ⟨_, rfl, d, od, rfl, .inl ⟨kvs, upd_same, fun D hD => ?_⟩⟩
        refine lc_out (out := ks.map V.str) walk_keys hD (by rw [List.length_map, hlk]) (by omega) (fun H1 s1 => s1 _ _ upd_same) (fun _ => rfl) ?_ ?_
        · rintro i y z H3 Q' hz' s3 ⟨k', v', hk, rfl⟩ q'
          obtain ⟨s', rfl, hs'⟩ := key_at k hk
          rw [List.getElem?_map, hs'] at hz'
          cases hz'
          exact ⟨_, rfl, q' H3 (Same.refl _)⟩
        · intro H3 s3 e3
          refine ⟨s3 _ _ upd_same, ?_⟩
          have ne : D ≠ d := fun z => by
            rw [z, s3 _ _ upd_same] at e3
            cases e3
          have s4 := unlock_same h s3
          have e : (lens ks : Nat) + ks.length * ("" : Str).length ≤ 16777216 := by
            show lens ks + ks.length * 0 ≤ _
            omega
          refine ⟨_, D, ks, rfl, rfl, .inl (SqL.of (by rw [upd_ne ne]; exact e3)), by rw [sum_lens]; exact e, ?_⟩
          refine ⟨_, .txt _, rfl, .txt _, rfl, ?_, _, _, rfl, rfl, ?_⟩
          · show (Txt.join ("" : Str) ks).length ≤ _
            rw [glued_len]
            omega
          · refine ⟨_, rfl, rfl, _, rfl, iteF ?_⟩
            exact fin _ _ s4 (by
              have e : lenV (.txt (Txt.join ("" : Str) ks)) = lens ks := glued_len ks
              show (1 + (lenV (.txt (Txt.join ("" : Str) ks)) : Int)) + _ = _
              rw [e]
              simp only [sizeV, partsV]
              omega)
      | @act p b o nm xs l h g r =>
        refine ⟨_, rfl, rfl, _, rfl, iteF ⟨_, rfl, rfl, _, rfl, iteF ⟨_, rfl, rfl, _, rfl, iteT ?_⟩⟩⟩
        simp only [sizeV] at hz
        refine ⟨_, rfl, _, _, 2, _, rfl, rfl, SqT.of h, rfl, _, .txt nm, rfl, .txt nm, rfl, by show nm.length ≤ _; omega, _, _, rfl, rfl, ?_⟩
        exact fin _ H (Same.refl H) (by simp only [lenV, sizeV, partsV]; omega)
      | lst h r => exact ⟨_, rfl, rfl, _, rfl, iteF ⟨_, rfl, rfl, _, rfl, iteF ⟨_, rfl, rfl, _, rfl, iteF (fin 1 H (Same.refl H) (by simp only [sizeV, partsV, sizeL]; omega))⟩⟩⟩
      | nul => exact ⟨_, rfl, rfl, _, rfl, iteF ⟨_, rfl, rfl, _, rfl, iteF ⟨_, rfl, rfl, _, rfl, iteF (fin 1 H (Same.refl H) (by simp only [sizeV, partsV, sizeL]; omega))⟩⟩⟩
      | boo b => exact ⟨_, rfl, rfl, _, rfl, iteF ⟨_, rfl, rfl, _, rfl, iteF ⟨_, rfl, rfl, _, rfl, iteF (fin 1 H (Same.refl H) (by simp only [sizeV, partsV, sizeL]; omega))⟩⟩⟩
      | num i => exact ⟨_, rfl, rfl, _, rfl, iteF ⟨_, rfl, rfl, _, rfl, iteF ⟨_, rfl, rfl, _, rfl, iteF (fin 1 H (Same.refl H) (by simp only [sizeV, partsV, sizeL]; omega))⟩⟩⟩
def spTextL : Sp := fun vs H Q _ => ∃ v x, vs = [v] ∧ Rep (At H) v x ∧ okV x = true ∧ ∀ H', Same H H' → Q (optV (textOf x)) H'
theorem ok_l_text_of (T : Txt P w K mg a) : FnOk P w K mg base CX0 2 a.l_text_of a.l_text_of_d ["_law_value_here"] spTextL := by
  have G_l_kind := ok_l_kind (base := base) T
  refine T.l_text_of.F.ok sc_l_text_of (fun vs H Q E h => ?_) (fun cdv A outer s H vs Q E hr h => ?_)
  · obtain ⟨v, x, rfl, _⟩ := h
    rfl
  · obtain ⟨v, x, rfl, rep, hok, q⟩ := h
    cases rep with
    | txt z =>
      refine ⟨_, (pss_cons (ps_set (i := 1) sc_l_text_of.nd rfl (Or.inl rfl) (pe_cd T.l_kind G_l_kind (hr.mono (by omega)) pass0 (pa_cons (pv 0) pa_nil)))
      (pss_cons (ps_if (pt_cmpR op_eq (pv 1) pe_str (nomark _)) (pss_one (ps_ret pe_str)) pss_nil)
      (pss_cons (ps_if (pt_cmpR op_eq (pv 1) pe_str (nomark _)) (pss_one (ps_ret (pe_ix ix_list (pe_lst (pa_cons pe_str (pa_cons pe_str pa_nil))) (pe_callTy call_int1 rfl T.b_int (by decide +kernel) (pa_cons (pv 0) pa_nil)) (fun _ _ => rfl)))) pss_nil)
      (pss_cons (ps_if (pt_cmpR op_in_seq (pv 1) (pe_tup (pa_cons pe_str (pa_cons pe_str pa_nil))) (by rfl)) (pss_one (ps_ret (pe_callTy SkE.call_str_str rfl T.b_str (by decide +kernel) (pa_cons (pv 0) pa_nil)))) pss_nil)
      (pss_one (ps_ret pe_non)))))), ?_⟩
      refine ⟨_, rfl, _, .txt z, rfl, .txt z, ?_⟩
      refine ⟨_, rfl, rfl, _, rfl, iteF ⟨_, rfl, rfl, _, rfl, iteF ?_⟩⟩
      exact in_strs (ss := ["number", "text"]) rfl (fun Q q => q) (by show 2 ≤ 100; decide) true (by rfl) fun H1 s1 => iteT ⟨_, rfl, z, rfl, q H1 s1⟩
    | num i =>
      refine ⟨_, (pss_cons (ps_set (i := 1) sc_l_text_of.nd rfl (Or.inl rfl) (pe_cd T.l_kind G_l_kind (hr.mono (by omega)) pass0 (pa_cons (pv 0) pa_nil)))
      (pss_cons (ps_if (pt_cmpR op_eq (pv 1) pe_str (nomark _)) (pss_one (ps_ret pe_str)) pss_nil)
      (pss_cons (ps_if (pt_cmpR op_eq (pv 1) pe_str (nomark _)) (pss_one (ps_ret (pe_ix ix_list (pe_lst (pa_cons pe_str (pa_cons pe_str pa_nil))) (pe_callTy call_int1 rfl T.b_int (by decide +kernel) (pa_cons (pv 0) pa_nil)) (fun _ _ => rfl)))) pss_nil)
      (pss_cons (ps_if (pt_cmpR op_in_seq (pv 1) (pe_tup (pa_cons pe_str (pa_cons pe_str pa_nil))) (by rfl)) (pss_one (ps_ret (pe_callTy call_str_int rfl T.b_str (by decide +kernel) (pa_cons (pv 0) pa_nil)))) pss_nil)
      (pss_one (ps_ret pe_non)))))), ?_⟩
      refine ⟨_, rfl, _, .num i, rfl, .num i, ?_⟩
      refine ⟨_, rfl, rfl, _, rfl, iteF ⟨_, rfl, rfl, _, rfl, iteF ?_⟩⟩
      exact in_strs (ss := ["number", "text"]) rfl (fun Q q => q) (by show 2 ≤ 100; decide) true (by rfl) fun H1 s1 => iteT ⟨_, rfl, i, rfl, log_small (num_le hok), q H1 s1⟩
    | nul =>
      refine ⟨_, (pss_cons (ps_set (i := 1) sc_l_text_of.nd rfl (Or.inl rfl) (pe_cd T.l_kind G_l_kind (hr.mono (by omega)) pass0 (pa_cons (pv 0) pa_nil)))
      (pss_cons (ps_if (pt_cmpR op_eq (pv 1) pe_str (nomark _)) (pss_one (ps_ret pe_str)) pss_nil)
      (pss_cons (ps_if (pt_cmpR op_eq (pv 1) pe_str (nomark _)) (pss_one (ps_ret (pe_ix ix_list (pe_lst (pa_cons pe_str (pa_cons pe_str pa_nil))) (pe_callTy call_int1 rfl T.b_int (by decide +kernel) (pa_cons (pv 0) pa_nil)) (fun _ _ => rfl)))) pss_nil)
      (pss_cons (ps_if (pt_cmpR op_in_seq (pv 1) (pe_tup (pa_cons pe_str (pa_cons pe_str pa_nil))) (by rfl)) (pss_one (ps_ret (pe_callTy call_str_int rfl T.b_str (by decide +kernel) (pa_cons (pv 0) pa_nil)))) pss_nil)
      (pss_one (ps_ret pe_non)))))), ?_⟩
      refine ⟨_, rfl, _, .nul, rfl, .nul, ?_⟩
      exact ⟨_, rfl, rfl, _, rfl, iteT (q H (Same.refl H))⟩
    | boo b =>
      refine ⟨_, (pss_cons (ps_set (i := 1) sc_l_text_of.nd rfl (Or.inl rfl) (pe_cd T.l_kind G_l_kind (hr.mono (by omega)) pass0 (pa_cons (pv 0) pa_nil)))
      (pss_cons (ps_if (pt_cmpR op_eq (pv 1) pe_str (nomark _)) (pss_one (ps_ret pe_str)) pss_nil)
      (pss_cons (ps_if (pt_cmpR op_eq (pv 1) pe_str (nomark _)) (pss_one (ps_ret (pe_ix ix_list (pe_lst (pa_cons pe_str (pa_cons pe_str pa_nil))) (pe_callTy call_int1 rfl T.b_int (by decide +kernel) (pa_cons (pv 0) pa_nil)) (fun _ _ => rfl)))) pss_nil)
      (pss_cons (ps_if (pt_cmpR op_in_seq (pv 1) (pe_tup (pa_cons pe_str (pa_cons pe_str pa_nil))) (by rfl)) (pss_one (ps_ret (pe_callTy call_str_int rfl T.b_str (by decide +kernel) (pa_cons (pv 0) pa_nil)))) pss_nil)
      (pss_one (ps_ret pe_non)))))), ?_⟩
      refine ⟨_, rfl, _, .boo b, rfl, .boo b, ?_⟩
      refine ⟨_, rfl, rfl, _, rfl, iteF ⟨_, rfl, rfl, _, rfl, iteT ?_⟩⟩
      refine ⟨by show 2 ≤ sizeLine; decide, fun p hp => ⟨_, rfl, .inr ⟨b, rfl, ?_⟩⟩⟩
      cases b with
      | true => exact ⟨p, _, 1, _, rfl, rfl, SqL.of upd_same, rfl, q _ (same_new hp _)⟩
      | false => exact ⟨p, _, 0, _, rfl, rfl, SqL.of upd_same, rfl, q _ (same_new hp _)⟩
    | _ =>
      refine ⟨_, (pss_cons (ps_set (i := 1) sc_l_text_of.nd rfl (Or.inl rfl) (pe_cd T.l_kind G_l_kind (hr.mono (by omega)) pass0 (pa_cons (pv 0) pa_nil)))
      (pss_cons (ps_if (pt_cmpR op_eq (pv 1) pe_str (nomark _)) (pss_one (ps_ret pe_str)) pss_nil)
      (pss_cons (ps_if (pt_cmpR op_eq (pv 1) pe_str (nomark _)) (pss_one (ps_ret (pe_ix ix_list (pe_lst (pa_cons pe_str (pa_cons pe_str pa_nil))) (pe_callTy call_int1 rfl T.b_int (by decide +kernel) (pa_cons (pv 0) pa_nil)) (fun _ _ => rfl)))) pss_nil)
      (pss_cons (ps_if (pt_cmpR op_in_seq (pv 1) (pe_tup (pa_cons pe_str (pa_cons pe_str pa_nil))) (by rfl)) (pss_one (ps_ret (pe_callTy call_str_int rfl T.b_str (by decide +kernel) (pa_cons (pv 0) pa_nil)))) pss_nil)
      (pss_one (ps_ret pe_non)))))), ?_⟩
      refine ⟨_, rfl, _, _, rfl, (by first | exact Rep.lst (.inl ‹_›) (RepL.rd ‹_›) | exact Rep.rcd (.inl ‹_›) ‹_› (RepL.rd ‹_›) | exact Rep.act (.inl ‹_›) (.inl ‹_›) (RepL.rd ‹_›)), ?_⟩
      refine ⟨_, rfl, rfl, _, rfl, iteF ⟨_, rfl, rfl, _, rfl, iteF ?_⟩⟩
      exact in_strs (ss := ["number", "text"]) rfl (fun Q q => q) (by show 2 ≤ 100; decide) false (by rfl) fun H1 s1 => iteF (q H1 s1)
end
end K19
namespace K19
open PySem PySem.Spec PyProof.Rows L2
theorem sc_l_same : FnScope nm_l_same ["_law_first", "_law_second"] (defScope s_l_same) := ⟨rfl, rfl, rfl, by decide +kernel, rfl, by decide +kernel, by decide +kernel⟩

theorem perm_of_sub : ∀ {ks js : List Str}, ks.Nodup → (∀ k ∈ ks, k ∈ js) → ks.length = js.length → ks.Perm js
  | [], js, _, _, h => by
    cases js with
    | nil => exact List.Perm.nil
    | cons _ _ => simp at h
  | k :: r, js, nd, h, e => by
    have hk := h k (by simp)
    have nd' := List.nodup_cons.mp nd
    have p := List.perm_cons_erase hk
    have e1 := List.length_erase_of_mem hk
    have q : r.Perm (js.erase k) := perm_of_sub nd'.2 (fun x hx => (List.mem_erase_of_ne (fun e : x = k => nd'.1 (by rw [← e]; exact hx))).mpr (h x (List.mem_cons_of_mem _ hx))) (by simp only [List.length_cons] at e; omega)
    exact (q.cons k).trans p.symm
theorem sortS_perm_eq {ks js : List Str} (p : ks.Perm js) : sortS ks = sortS js := by
  refine List.Perm.eq_of_pairwise (le := fun a b => leS a b = true) (fun a b _ _ h g => leS_antisymm h g) ?_ ?_ (((sortS_perm ks).trans p).trans (sortS_perm js).symm)
  · exact List.pairwise_mergeSort leS_trans leS_total ks
  · exact List.pairwise_mergeSort leS_trans leS_total js
theorem getK_in : ∀ {ks : List Str} {l : List Val} {k : Str} {y : Val}, getK ks l k = some y → k ∈ ks
  | [], _, _, _, h => by simp [getK] at h
  | _ :: _, [], _, _, h => by simp [getK] at h
  | j :: js, y :: ys, k, x, h => by
    by_cases c : j = k
    · rw [c]
      exact List.mem_cons_self
    · simp only [getK, if_neg c] at h
      exact List.mem_cons_of_mem _ (getK_in h)
theorem sameR_in {js : List Str} {b : List Val} : ∀ {l : List Val} {ks : List Str}, l.length = ks.length → sameR l ks js b = true → ∀ k ∈ ks, k ∈ js
  | [], [], _, _, _, h => nomatch h
  | [], _ :: _, h, _, _, _ => by simp at h
  | _ :: _, [], h, _, _, _ => by simp at h
  | x :: r, k :: ks, h, e, j, hj => by
    simp only [sameR, Bool.and_eq_true] at e
    rcases List.mem_cons.mp hj with q | q
    · subst q
      have e1 := e.1
      split at e1
      · rename_i y q
        exact getK_in q
      · cases e1
    · exact sameR_in (by simpa using h) e.2 j q
theorem sort_ne {ks js : List Str} {l m : List Val} (o1 : okV (.rcd ks l) = true) (h : ¬ sortS ks = sortS js) : sameV (.rcd ks l) (.rcd js m) = false := by
  cases e : sameV (.rcd ks l) (.rcd js m) with
  | false => rfl
  | true =>
    simp only [sameV, Bool.and_eq_true, beq_iff_eq] at e
    exact absurd (sortS_perm_eq (perm_of_sub (ok_rcd o1).1 (sameR_in (ok_rcd o1).2.1.symm e.2) e.1)) h
theorem sortS_okK {ks : List Str} (h : okK ks = true) : okK (sortS ks) = true := by
  simp only [okK, List.all_eq_true] at h ⊢
  exact fun k hk => h k ((sortS_perm ks).mem_iff.mp hk)
def rk (x : Val) : Nat := 2 * depthV x + (match x with | .act _ _ _ => 1 | _ => 0)
theorem rk_le (x : Val) : rk x ≤ 2 * depthV x + 1 := by
  unfold rk
  split <;> omega
theorem rk_ge (x : Val) : 2 * depthV x ≤ rk x := by
  unfold rk
  omega
section
variable {P : Program} {w : World} {K : PySem.W.Frag} {mg : Str → Option Value} {base : Heap} {a : Ads}
def spLSame (n : Nat) : Sp := fun vs H Q _ => ∃ v u x y, vs = [v, u] ∧ Rep (At H) v x ∧ Rep (Rd H) u y ∧ okV x = true ∧ okV y = true ∧ rk x ≤ n ∧ sizeV x ≤ 9000000 ∧ sizeV y ≤ 9000000 ∧ ∀ H', Same H H' → Q (.bl (sameV x y)) H'
theorem kind_none (x : Val) : decide (V.str (kindN x) = V.str "none") = false := by
  cases x <;> kernel_rfl
theorem ok_l_same (T : Txt P w K mg a) : ∀ n : Nat, FnOk P w K mg base CX0 (n + 2) a.l_same a.l_same_d ["_law_first", "_law_second"] (spLSame n)
  | 0 => fn_none fun vs H Q E h => by
    obtain ⟨v, u, x, y, _, _, _, _, _, h, _⟩ := h
    have := depthV_pos x
    have := rk_ge x
    omega
  | n + 1 => by
    have G_l_kind := ok_l_kind (base := base) T
    have G_l_same := ok_l_same T n
    refine T.l_same.F.ok sc_l_same (fun vs H Q E h => ?_) (fun cdv A outer s H vs Q E hr h => ?_)
    · obtain ⟨v, u, x, y, rfl, _⟩ := h
      rfl
    · obtain ⟨v, u, x, y, rfl, rv, ru, o1, o2, hd, z1, z2, q⟩ := h
      refine ⟨_, (pss_cons (ps_set (i := 2) sc_l_same.nd rfl (Or.inl rfl) (pe_cd T.l_kind G_l_kind (hr.mono (by omega)) pass0 (pa_cons (pv 0) pa_nil)))
      (pss_cons (ps_if (PW.pt (pw_or (pt_cmpR op_ne (pv 2) (pe_cd T.l_kind G_l_kind (hr.mono (by omega)) pass0 (pa_cons (pv 1) pa_nil)) (nomark _)) (pw_or1 (pt_cmpR op_eq (pv 2) pe_str (nomark _))))) (pss_one (ps_ret pe_bl)) pss_nil)
      (pss_cons (ps_if (pt_cmpR op_eq (pv 2) pe_str (nomark _)) (pss_cons (ps_if (pt_cmpR op_ne (pe_callB call_lenV rfl T.b_len (by decide +kernel) (pa_cons (pv 0) pa_nil)) (pe_callB call_lenV rfl T.b_len (by decide +kernel) (pa_cons (pv 1) pa_nil)) (nomark _)) (pss_one (ps_ret pe_bl)) pss_nil)
      (pss_cons (ps_for PassesOwn.never rfl (pi_range1 rfl T.b_range (pa_cons (pe_callB call_lenV rfl T.b_len (by decide +kernel) (pa_cons (pv 0) pa_nil)) pa_nil)) (pg_name (i := 3) sc_l_same.nd rfl (Or.inl rfl)) (pss_one (ps_if (pt_not (pt_val (pe_cd T.l_same G_l_same (hr.mono (by omega)) pass0 (pa_cons (pe_ix ix_list (pv 0) (pv 3) (fun _ _ => rfl)) (pa_cons (pe_ix ix_list (pv 1) (pv 3) (fun _ _ => rfl)) pa_nil))))) (pss_one (ps_ret pe_bl)) pss_nil)))
      (pss_one (ps_ret pe_bl)))) pss_nil)
      (pss_cons (ps_if (pt_cmpR op_eq (pv 2) pe_str (nomark _)) (pss_cons (ps_if (pt_cmpR (op_neLL hr.units) (pe_callB (call_sortedD rfl) rfl T.b_sorted (by decide +kernel) (pa_cons (pv 0) pa_nil)) (pe_callB (call_sortedD rfl) rfl T.b_sorted (by decide +kernel) (pa_cons (pv 1) pa_nil)) (nomark _)) (pss_one (ps_ret pe_bl)) pss_nil)
      (pss_cons (ps_lock (ps_for PassesOwn.never rfl (pi_keys (pv 0)) (pg_name (i := 4) sc_l_same.nd rfl (Or.inl rfl)) (pss_one (ps_if (pt_not (pt_val (pe_cd T.l_same G_l_same (hr.mono (by omega)) pass0 (pa_cons (pe_dget (hu_of hr) (pv 0) (pv 4) (fun _ _ => rfl)) (pa_cons (pe_dget (hu_of hr) (pv 1) (pv 4) (fun _ _ => rfl)) pa_nil))))) (pss_one (ps_ret pe_bl)) pss_nil))))
      (pss_one (ps_ret pe_bl)))) pss_nil)
      (pss_cons (ps_if (pt_cmpR op_eq (pv 2) pe_str (nomark _)) (pss_cons (ps_if (PW.pt (pw_or (pt_cmpR op_ne (pe_cd T.l_kind G_l_kind (hr.mono (by omega)) pass0 (pa_cons (pe_ix ix_tup (pv 0) pe_int (fun _ _ => rfl)) pa_nil)) pe_str (nomark _)) (pw_or (pt_cmpR op_ne (pe_ix ix_tup (pv 0) pe_int (fun _ _ => rfl)) (pe_ix ix_tup (pv 1) pe_int (fun _ _ => rfl)) (nomark _)) (pw_or1 (pt_cmpR op_ne (pe_ix ix_tup (pv 0) pe_int (fun _ _ => rfl)) (pe_ix ix_tup (pv 1) pe_int (fun _ _ => rfl)) (nomark _)))))) (pss_one (ps_ret pe_bl)) pss_nil)
      (pss_one (ps_ret (pe_cd T.l_same G_l_same (hr.mono (by omega)) pass0 (pa_cons (pe_ix ix_tup (pv 0) pe_int (fun _ _ => rfl)) (pa_cons (pe_ix ix_tup (pv 1) pe_int (fun _ _ => rfl)) pa_nil)))))) pss_nil)
      (pss_one (ps_ret (pe_cmpR op_eq (pv 0) (pv 1) (nomark _))))))))), ?_⟩
      refine ⟨_, rfl, v, x, rfl, rv.rd, ?_⟩
      refine ⟨_, rfl, _, rfl, u, y, rfl, ru, rfl, _, rfl, ?_⟩
      have hrg := rk_ge x
      by_cases c : kindN x = kindN y
      · have c' : V.str (kindN x) = V.str (kindN y) := by rw [c]
        refine iteE (by rw [decide_eq_true c']; rfl) ⟨_, rfl, rfl, _, rfl, iteE (kind_none x) ?_⟩
        rcases kind_sc c with (⟨l, m, rfl, rfl⟩ | ⟨ks, l, js, m, rfl, rfl⟩ | ⟨o, nn, l, p, mm, m, rfl, rfl⟩) | h
        · have rv0 := rv
          have ru0 := ru
          cases rv with
          | @lst p xs _ e1 r1 =>
          cases ru with
          | @lst q0 ys _ e2 r2 =>
          simp only [sizeV] at z1 z2
          simp only [depthV] at hrg
          have h1 := sizeL_len l
          have h2 := sizeL_len m
          refine ⟨_, rfl, rfl, _, rfl, iteT ?_⟩
          refine ⟨_, rfl, _, .lst l, rfl, rv0.rd, rfl, by show l.length ≤ _; omega, ?_⟩
          refine ⟨_, rfl, _, .lst m, rfl, ru0, rfl, by show m.length ≤ _; omega, rfl, _, rfl, ?_⟩
          by_cases c : l.length = m.length
          · have c' : V.int ((lenV (.lst l) : Nat) : Int) = V.int ((lenV (.lst m) : Nat) : Int) := by simp only [lenV, c]
            refine iteNS c' ?_
            refine ⟨_, rfl, _, .lst l, rfl, rv0.rd, rfl, by show l.length ≤ _; omega, _, rfl, ?_, ?_, ?_⟩
            · show -(2 ^ 62) ≤ ((l.length : Nat) : Int)
              omega
            · show ((l.length : Nat) : Int) < 2 ^ 62
              omega
            refine for_range (lo := 0) (n := l.length) (fun i σ H2 => ∃ o, σ = [some (.ref p), some (.ref q0), some (.str "list"), o, none] ∧ Same H H2 ∧ sameL (l.take i) (m.take i) = true) ⟨none, rfl, Same.refl _, by simp [sameL]⟩ ?_ ?_
            · rintro i σ H2 hi ⟨o, rfl, s2, t2⟩
              obtain ⟨x, hx⟩ := getD_some hi
              obtain ⟨y, hy⟩ := getD_some (l := m) (by omega : i < m.length)
              obtain ⟨v, hv, rv⟩ := r1.get' hx
              obtain ⟨u, hu, ru⟩ := r2.get' hy
              have hix : atI xs (0 + (i : Int)) = some v := by rw [Int.zero_add]; exact atI_nat hv
              have hiy : atI ys (0 + (i : Int)) = some u := by rw [Int.zero_add]; exact atI_nat hu
              have mx := List.mem_of_getElem? hx
              have my := List.mem_of_getElem? hy
              have k1 := depthL_mem mx
              have k2 := sizeL_mem mx
              have k3 := sizeL_mem my
              have k4 := rk_le x
              refine ⟨_, rfl, _, rfl, p, xs, _, v, rfl, rfl, SqL.of (s2 _ _ e1), hix, _, rfl, _, rfl, q0, ys, _, u, rfl, rfl, .inl (rd_same s2 e2), hiy, ?_⟩
              refine ⟨v, u, x, y, rfl, rv.same s2, ru.rds s2, okL_mem o1 mx, okL_mem o2 my, by omega, by omega, by omega, fun H3 s3 => ⟨_, rfl, ?_⟩⟩
              cases t3 : sameV x y with
              | true =>
                refine iteF ⟨_, rfl, s2.trans s3, ?_⟩
                rw [sameL_at c hx hy, t2, t3]
                rfl
              | false =>
                refine iteT ?_
                have e3 : sameL l m = false := sameL_drop (i + 1) c (by rw [sameL_at c hx hy, t3, Bool.and_false])
                have := q H3 (s2.trans s3)
                simp only [sameV] at this
                rw [e3] at this
                exact this
            · rintro σ H2 ⟨o, rfl, s2, t2⟩
              have := q H2 s2
              rw [List.take_length, c, List.take_length] at t2
              simp only [sameV] at this
              rw [t2] at this
              exact this
          · have c' : ¬ V.int ((lenV (.lst l) : Nat) : Int) = V.int ((lenV (.lst m) : Nat) : Int) := by
              simp only [lenV, V.int.injEq]
              omega
            rw [decide_eq_false c']
            refine iteT ?_
            have := q H (Same.refl H)
            simp only [sameV] at this
            rw [sameL_len c] at this
            exact this
        · have rd := rv
          have re := ru
          have rd0 := rv
          have k1 := (ok_rcd o1).2.2.1
          have k2 := (ok_rcd o2).2.2.1
          have kl := (ok_rcd o1).2.1
          simp only [depthV] at hrg
          cases rd with
          | @rcd d kvs _ _ hD kD rD =>
          cases re with
          | @rcd e kve _ _ hE kE rE =>
          have hlk : kvs.length = ks.length := by simpa using congrArg List.length kD
          refine ⟨_, rfl, rfl, _, rfl, iteF ⟨_, rfl, rfl, _, rfl, iteT ?_⟩⟩
          refine ⟨_, rfl, d, kvs, ks, rfl, .inl hD, kD, by omega, fun s1 p1 pm1 st1 hp1 => ?_⟩
          have es1 := sortS_uniq pm1 st1
          subst es1
          have sa := same_new hp1 (.lst ((sortS ks).map V.str))
          refine ⟨_, rfl, e, kve, js, rfl, rd_same sa hE, kE, by omega, fun s2 p2 pm2 st2 hp2 => ?_⟩
          have es2 := sortS_uniq pm2 st2
          subst es2
          have sb := same_snoc sa hp2 (.lst ((sortS js).map V.str))
          refine ⟨p1, p2, sortS ks, sortS js, rfl, rfl, ⟨SqL.of (same_new hp2 _ _ _ upd_same), SqL.of upd_same⟩, sortS_okK (ok_keys o1), sortS_okK (ok_keys o2), _, rfl, ?_⟩
          generalize upd (upd H p1 (.lst ((sortS ks).map V.str))) p2 (.lst ((sortS js).map V.str)) = H1 at sb
          by_cases c : sortS ks = sortS js
          · refine iteE (by rw [if_pos rfl, decide_eq_true c]; rfl) ?_
            have cl : ks.length = js.length := by rw [← sortS_length ks, ← sortS_length js, c]
            have hD1 := sb _ _ hD
            have rd1 := rd0.same sb
            have rD1 := rD.same sb
            have rE1 := rE.rds sb
            have hE1 := rd_same sb hE
            refine ⟨d, _, hD1, trivial, fun od => ?_⟩
            have rdl : ∀ {b : Addr} {o : HO}, Rd H1 b o → Rd (upd H1 d (.frz od (.dK kvs))) b o := fun h => rd_lock hD1 (fun _ _ z => by cases z) h
            refine ⟨_, rfl, d, od, rfl, .inl ⟨kvs, upd_same, ?_⟩⟩
            refine for_it walk_keys (fun i σ H2 => ∃ o, σ = [some (.ref d), some (.ref e), some (.str "record"), none, o] ∧ Same (upd H1 d (.frz od (.dK kvs))) H2 ∧ sameR (l.take i) (ks.take i) js m = true) ⟨none, rfl, Same.refl _, by simp [sameR]⟩ (fun i σ H2 _ ⟨_, _, s2, _⟩ => s2 _ _ upd_same) ?_ ?_
            · rintro i y σ H2 H3 hi ⟨o, rfl, s2, t2⟩ ⟨rfl, k', v', hk, rfl⟩
              obtain ⟨nm, rfl, hnm⟩ := key_at kD hk
              have hdl : H3 d = some (.frz od (.dK kvs)) := s2 _ _ upd_same
              have hv' : (kvs.map (·.2))[i]? = some v' := by rw [List.getElem?_map, hk]; rfl
              obtain ⟨x, hx, rx⟩ := rD1.get hv'
              have mx := List.mem_of_getElem? hx
              have dx := depthL_mem mx
              have k4 := rk_le x
              have rx' : Rep (At (upd H1 d (.frz od (.dK kvs)))) v' x := Rep.under rd1 rx (by simp only [depthV]; omega)
              have szx : sizeV x ≤ 9000000 := Nat.le_trans (mem_size (x := .rcd ks l) mx) z1
              have jn : nm ∈ js := (sortS_perm js).mem_iff.mp (c ▸ (sortS_perm ks).mem_iff.mpr (List.mem_of_getElem? hnm))
              obtain ⟨u, y, hu, hy, ru⟩ : ∃ u y, valV kve (Sum.inr nm : Key) = some u ∧ getK js m nm = some y ∧ Rep (Rd H1) u y := by
                rcases rE1.val nm kE with h | ⟨_, h⟩
                · exact h
                · obtain ⟨z, hz⟩ := getK_some (ok_rcd o2).2.1 jn
                  rw [hz] at h
                  cases h
              have my := getK_mem hy
              have szy : sizeV y ≤ 9000000 := Nat.le_trans (mem_size (x := .rcd js m) my) z2
              refine ⟨_, rfl, _, rfl, d, v', rfl, .inl ⟨kvs, .inr nm, .inr ⟨od, hdl⟩, rfl, (valV_at (nd_keys kD (ok_rcd o1).1) hk).symm⟩, _, rfl, _, rfl, e, u, rfl, .inl ⟨kve, .inr nm, rd_same s2 (rdl hE1), rfl, hu.symm⟩, ?_⟩
              refine ⟨v', u, x, y, rfl, rx'.same s2, ru.mono (fun b o h => rd_same s2 (rdl h)), okL_mem (ok_rcd o1).2.2.2 mx, okL_mem (ok_rcd o2).2.2.2 my, by omega, szx, szy, fun H4 s4 => ⟨_, rfl, ?_⟩⟩
              have ef : fieldS x nm js m = sameV x y := by simp [fieldS, hy]
              cases t3 : sameV x y with
              | true =>
                refine iteF ⟨_, rfl, s2.trans s4, ?_⟩
                rw [sameR_at kl.symm hx hnm, t2, ef, t3]
                rfl
              | false =>
                refine iteT ?_
                have s5 := s2.trans s4
                refine ⟨s5 _ _ upd_same, ?_⟩
                have := q _ (sb.trans (unlock_same hD1 s5))
                simp only [sameV] at this
                rw [sameR_drop (i + 1) kl.symm (by rw [sameR_at kl.symm hx hnm, ef, t3, Bool.and_false]), Bool.and_false] at this
                exact this
            · rintro σ H2 ⟨o, rfl, s2, t2⟩
              refine ⟨s2 _ _ upd_same, ?_⟩
              have := q _ (sb.trans (unlock_same hD1 s2))
              rw [hlk, kl, List.take_length, ← kl, List.take_length] at t2
              simp only [sameV] at this
              rw [t2, cl, Bool.and_true, beq_self_eq_true] at this
              exact this
          · refine iteD (by rw [if_pos rfl, decide_eq_false c]; rfl) ?_
            have := q H1 sb
            rw [sort_ne o1 c] at this
            exact this
        · cases rv with
          | act h h' r =>
          cases ru with
          | act g g' t =>
          refine ⟨_, rfl, rfl, _, rfl, iteF ⟨_, rfl, rfl, _, rfl, iteF ⟨_, rfl, rfl, _, rfl, iteT ?_⟩⟩⟩
          refine ⟨_, rfl, _, _, 1, _, rfl, rfl, SqT.of h, rfl, _, .num o, rfl, .num o, rfl, _, rfl, iteF ?_⟩
          refine ⟨_, rfl, _, _, 1, _, rfl, rfl, SqT.of h, rfl, _, rfl, _, _, 1, _, rfl, rfl, .inl g, rfl, rfl, _, rfl, ?_⟩
          by_cases e1 : o = p
          · subst e1
            refine iteE (by rw [decide_eq_true rfl]; rfl) ?_
            refine ⟨_, rfl, _, _, 2, _, rfl, rfl, SqT.of h, rfl, _, rfl, _, _, 2, _, rfl, rfl, .inl g, rfl, rfl, _, rfl, ?_⟩
            by_cases e2 : nn = mm
            · subst e2
              refine iteE (by rw [decide_eq_true rfl]; rfl) ?_
              refine ⟨_, rfl, _, _, 3, _, rfl, rfl, SqT.of h, rfl, _, rfl, _, _, 3, _, rfl, rfl, .inl g, rfl, ?_⟩
              refine ⟨_, _, .lst l, .lst m, rfl, .lst h' r, .lst g' t, ?_, ?_, ?_, by simp only [sizeV] at z1 ⊢; omega, by simp only [sizeV] at z2 ⊢; omega, fun H' s => ?_⟩
              · exact ok_parts (x := .act o nn l) o1
              · exact ok_parts (x := .act o nn m) o2
              · simp only [rk, depthV] at hd ⊢
                omega
              · have := q H' s
                simp only [sameV, beq_self_eq_true, Bool.true_and] at this
                exact this
            · have c2 : ¬ V.str nn = V.str mm := fun z => e2 (by injection z)
              have := q H (Same.refl H)
              have e3 : (nn == mm) = false := by simpa using e2
              simp only [sameV, e3, beq_self_eq_true, Bool.true_and, Bool.false_and] at this
              exact iteD (by rw [decide_eq_false c2]; rfl) this
          · have c2 : ¬ V.int o = V.int p := fun z => e1 (by injection z)
            have := q H (Same.refl H)
            have e3 : (o == p) = false := by simpa using e1
            simp only [sameV, e3, Bool.false_and] at this
            exact iteD (by rw [decide_eq_false c2]; rfl) (iteT this)
        · have fin : ∀ (b : Bool), V.bl b = V.bl (sameV x y) → Q (.bl b) H := fun b e => by
            rw [e]
            exact q H (Same.refl H)
          rcases h with ⟨rfl, rfl⟩ | ⟨b, c, rfl, rfl⟩ | ⟨i, j, rfl, rfl⟩ | ⟨s, t, rfl, rfl⟩
          · cases rv
            cases ru
            exact ⟨_, rfl, rfl, _, rfl, iteF ⟨_, rfl, rfl, _, rfl, iteF ⟨_, rfl, rfl, _, rfl, iteF ⟨_, rfl, _, rfl, rfl, fin _ rfl⟩⟩⟩⟩
          · cases rv
            cases ru
            exact ⟨_, rfl, rfl, _, rfl, iteF ⟨_, rfl, rfl, _, rfl, iteF ⟨_, rfl, rfl, _, rfl, iteF ⟨_, rfl, _, rfl, rfl, fin _ (congrArg V.bl dec_bl)⟩⟩⟩⟩
          · cases rv
            cases ru
            exact ⟨_, rfl, rfl, _, rfl, iteF ⟨_, rfl, rfl, _, rfl, iteF ⟨_, rfl, rfl, _, rfl, iteF ⟨_, rfl, _, rfl, rfl, fin _ (congrArg V.bl dec_int)⟩⟩⟩⟩
          · cases rv
            cases ru
            exact ⟨_, rfl, rfl, _, rfl, iteF ⟨_, rfl, rfl, _, rfl, iteF ⟨_, rfl, rfl, _, rfl, iteF ⟨_, rfl, _, rfl, rfl, fin _ (congrArg V.bl dec_str)⟩⟩⟩⟩
      · refine iteD (by rw [decide_eq_false fun e => c (by injection e)]; rfl) (iteT ?_)
        have := q H (Same.refl H)
        rw [kind_ne c] at this
        exact this
end
end K19
namespace K19
open PySem PySem.Spec PyProof.Rows L2
theorem sc_l_made : FnScope nm_l_made ["_law_value_here"] (defScope s_l_made) := ⟨rfl, rfl, rfl, by decide +kernel, rfl, by decide +kernel, by decide +kernel⟩
theorem sc_l_bounded : FnScope nm_l_bounded ["_law_number_here"] (defScope s_l_bounded) := ⟨rfl, rfl, rfl, by decide +kernel, rfl, by decide +kernel, by decide +kernel⟩
theorem sc_l_joined : FnScope nm_l_joined ["_law_text_here"] (defScope s_l_joined) := ⟨rfl, rfl, rfl, by decide +kernel, rfl, by decide +kernel, by decide +kernel⟩
theorem sc_l_quotient : FnScope nm_l_quotient ["_law_first", "_law_second"] (defScope s_l_quotient) := ⟨rfl, rfl, rfl, by decide +kernel, rfl, by decide +kernel, by decide +kernel⟩
theorem sc_l_sum : FnScope nm_l_sum ["_law_first", "_law_second"] (defScope s_l_sum) := ⟨rfl, rfl, rfl, by decide +kernel, rfl, by decide +kernel, by decide +kernel⟩
theorem sc_l_operate : FnScope nm_l_operate ["_law_sign", "_law_first", "_law_second"] (defScope s_l_operate) := ⟨rfl, rfl, rfl, by decide +kernel, rfl, by decide +kernel, by decide +kernel⟩

/-- what stands at an address, but at those that are kept apart (N: what some frame still changes) -/
def AtN (N : Addr → Prop) (H : Hp) : Addr → HO → Prop := fun a u => H a = some u ∧ ¬ N a
section
variable {N M : Addr → Prop} {H H' : Hp}
theorem Rep.n {v : V} {x : Val} (h : Rep (AtN N H) v x) : Rep (At H) v x := h.mono fun _ _ e => e.1
theorem RepL.n {v : List V} {x : List Val} (h : RepL (AtN N H) v x) : RepL (At H) v x := h.mono fun _ _ e => e.1
theorem Rep.sameN (s : Same H H') {v : V} {x : Val} (h : Rep (AtN N H) v x) : Rep (AtN N H') v x := h.mono fun a u e => ⟨s a u e.1, e.2⟩
theorem RepL.sameN (s : Same H H') {v : List V} {x : List Val} (h : RepL (AtN N H) v x) : RepL (AtN N H') v x := h.mono fun a u e => ⟨s a u e.1, e.2⟩
end
/-- a result of the law's own: (value, None) or (None, message) -/
def ResAt (R : Addr → HO → Prop) (t : Addr) (r : Res) : Prop := match r with
  | .ok x => ∃ u, R t (.tup [u, .non]) ∧ Rep R u x
  | .error m => R t (.tup [.non, .str m])
theorem ResAt.mono {R R' : Addr → HO → Prop} (f : ∀ a u, R a u → R' a u) {t : Addr} {r : Res} (h : ResAt R t r) : ResAt R' t r := by
  cases r with
  | ok x =>
    obtain ⟨u, a, b⟩ := h
    exact ⟨u, f _ _ a, b.mono f⟩
  | error m => exact f _ _ h
/-- the addresses kept apart are there -/
def NOk (N : Addr → Prop) (H : Hp) : Prop := ∀ a, N a → H a ≠ none
theorem NOk.later {N : Addr → Prop} {H H' : Hp} (h : NOk N H) (s : Same H H') : NOk N H' := fun a ha e => h a ha (s.free e)
def AnsL (N : Addr → Prop) (H : Hp) (r : Res) (Q : VK) : Prop := NOk N H ∧ ∀ t H', Same H H' → ResAt (AtN N H') t r → Q (.ref t) H'
section
variable {N : Addr → Prop} {H H1 : Hp} {Q : VK}
theorem AnsL.later {r : Res} (q : AnsL N H r Q) (s : Same H H1) : AnsL N H1 r Q := ⟨q.1.later s, fun t H2 s2 h => q.2 t H2 (s.trans s2) h⟩
theorem AnsL.free {r : Res} (q : AnsL N H r Q) (s : Same H H1) {t : Addr} (ht : H1 t = none) : ¬ N t := fun h => q.1 t h (s.free ht)
theorem AnsL.good {x : Val} {u : V} (q : AnsL N H (.ok x) Q) (s : Same H H1) (r : Rep (AtN N H1) u x) : [u, V.non].length ≤ sizeLine ∧ ∀ t, H1 t = none → Q (.ref t) (upd H1 t (.tup [u, .non])) :=
  ⟨by show 2 ≤ sizeLine; decide, fun t ht => q.2 t _ (same_snoc s ht _) ⟨u, ⟨upd_same, q.free s ht⟩, r.sameN (same_new ht _)⟩⟩
theorem AnsL.bad {m : Str} (q : AnsL N H (.error m) Q) (s : Same H H1) : [V.non, V.str m].length ≤ sizeLine ∧ ∀ t, H1 t = none → Q (.ref t) (upd H1 t (.tup [.non, .str m])) :=
  ⟨by show 2 ≤ sizeLine; decide, fun t ht => q.2 t _ (same_snoc s ht _) ⟨upd_same, q.free s ht⟩⟩
end
section
variable {P : Program} {w : World} {K : PySem.W.Frag} {mg : Str → Option Value} {base : Heap} {a : Ads}
def spLMade : Sp := fun vs H Q _ => ∃ N v x, vs = [v] ∧ Rep (AtN N H) v x ∧ okV x = true ∧ depthV x ≤ 21 ∧ sizeV x ≤ 9000000 ∧ AnsL N H (mMade x) Q
theorem ok_l_made (T : Txt P w K mg a) : FnOk P w K mg base CX0 26 a.l_made a.l_made_d ["_law_value_here"] spLMade := by
  have G_l_depth := ok_l_depth (base := base) T 21
  have G_l_size := ok_l_size (base := base) T 21
  refine T.l_made.F.ok sc_l_made (fun vs H Q E h => ?_) (fun cdv A outer s H vs Q E hr h => ?_)
  · obtain ⟨N, v, x, rfl, _⟩ := h
    rfl
  · obtain ⟨N, v, x, rfl, nrep, hok, hd, hz, q⟩ := h
    have rep := nrep.n
    refine ⟨_, (pss_cons (ps_if (PW.pt (pw_and (pt_val (pe_callB call_isV rfl T.b_isinstance (by decide +kernel) (pa_cons (pv 0) (pa_cons (pe_bltn (v := .ty "list") (u := .type "list") rfl T.b_list (by decide +kernel) rfl) pa_nil)))) (pw_and1 (pt_cmpR op_gt (pe_callB call_lenV rfl T.b_len (by decide +kernel) (pa_cons (pv 0) pa_nil)) pe_int (nomark _))))) (pss_one (ps_ret (pe_tup (pa_cons pe_non (pa_cons pe_str pa_nil))))) pss_nil)
      (pss_cons (ps_if (pt_cmpR op_gt (pe_cd T.l_depth G_l_depth (hr.mono (by omega)) pass0 (pa_cons (pv 0) pa_nil)) pe_int (nomark _)) (pss_one (ps_ret (pe_tup (pa_cons pe_non (pa_cons pe_str pa_nil))))) pss_nil)
      (pss_cons (ps_if (pt_cmpR op_gt (pe_cd T.l_size G_l_size (hr.mono (by omega)) pass0 (pa_cons (pv 0) pa_nil)) pe_int (nomark _)) (pss_one (ps_ret (pe_tup (pa_cons pe_non (pa_cons pe_str pa_nil))))) pss_nil)
      (pss_one (ps_ret (pe_tup (pa_cons (pv 0) (pa_cons pe_non pa_nil)))))))), ?_⟩
    have tst : ∀ R : Bool → Hp → Prop, R (isLong x) H → tAnd (tTest (tCB rIsV (tCons (tVar 0) (tCons (tC (.ty "list")) tNil)))) (tTest (tOp (rI0 fun i j => .bl (decide (j < i))) (tCB rLenV (tCons (tVar 0) tNil)) (tC (.int 200)))) (start nm_l_made [v]) H R := by
      intro R h
      cases x with
      | lst l =>
        have hl := sizeL_len l
        simp only [sizeV] at hz
        refine ⟨_, rfl, v, _, .list, rfl, rep.rd, _, rfl, iteD (by rfl) ⟨_, rfl, v, _, rfl, rep.rd, rfl, by show l.length ≤ _; omega, _, _, rfl, rfl, _, rfl, ?_⟩⟩
        have e : decide ((200 : Int) < ((lenV (.lst l) : Nat) : Int)) = isLong (.lst l) := by
          show decide ((200 : Int) < (l.length : Int)) = decide (l.length > 200)
          by_cases c : l.length > 200
          · rw [decide_eq_true c, decide_eq_true (by omega)]
          · rw [decide_eq_false c, decide_eq_false (by omega)]
        rw [e]
        exact h
      | _ => exact ⟨_, rfl, v, _, .list, rfl, rep.rd, _, rfl, iteE (by rfl) h⟩
    refine tst _ ?_
    unfold mMade at q
    by_cases c : isLong x = true
    · rw [if_pos c] at q
      exact iteD c (q.bad (Same.refl H))
    · rw [if_neg c] at q
      refine iteE (by simpa using c) ?_
      refine ⟨_, rfl, v, x, rfl, rep, hok, hd, hz, fun H1 s1 => ⟨_, _, rfl, rfl, _, rfl, ?_⟩⟩
      by_cases c2 : depthV x > 20
      · rw [if_pos c2] at q
        exact iteD (decide_eq_true (by omega)) (q.bad s1)
      · rw [if_neg c2] at q
        refine iteE (decide_eq_false (by omega)) ?_
        refine ⟨_, rfl, v, x, rfl, rep.same s1, hok, hd, hz, fun H2 s2 => ⟨_, _, rfl, rfl, _, rfl, ?_⟩⟩
        by_cases c3 : sizeV x > 2000
        · rw [if_pos c3] at q
          exact iteD (decide_eq_true (by omega)) (q.bad (s1.trans s2))
        · rw [if_neg c3] at q
          exact iteE (decide_eq_false (by omega)) ⟨_, rfl, q.good (s1.trans s2) (nrep.sameN (s1.trans s2))⟩
def spLBound : Sp := fun vs H Q _ => ∃ (N : Addr → Prop) (i : Int), vs = [.int i] ∧ AnsL N H (mNum i) Q
theorem ok_l_bounded (T : Txt P w K mg a) : FnOk P w K mg base CX0 1 a.l_bounded a.l_bounded_d ["_law_number_here"] spLBound := by
  refine T.l_bounded.F.ok sc_l_bounded (fun vs H Q E h => ?_) (fun cdv A outer s H vs Q E hr h => ?_)
  · obtain ⟨N, i, rfl, _⟩ := h
    rfl
  · obtain ⟨N, i, rfl, q⟩ := h
    refine ⟨_, (pss_cons (ps_if (PW.pt (pw_or (pt_cmpR op_gt (pv 0) (pe_op op_pow pe_int pe_int) (nomark _)) (pw_or1 (pt_cmpR op_lt (pv 0) (pe_op op_sub pe_int (pe_op op_pow pe_int pe_int)) (nomark _))))) (pss_one (ps_ret (pe_tup (pa_cons pe_non (pa_cons pe_str pa_nil))))) pss_nil)
      (pss_one (ps_ret (pe_tup (pa_cons (pv 0) (pa_cons pe_non pa_nil)))))), ?_⟩
    have c30 : CPow 10 30 := ⟨by decide, by decide, by decide⟩
    have e30 : (10 : Int) ^ (30 : Int).toNat = 1000000000000000000000000000000 := by decide +kernel
    refine ⟨_, rfl, 10, 30, rfl, rfl, c30, _, _, rfl, rfl, _, rfl, ?_⟩
    rw [e30]
    unfold mNum at q
    by_cases c : i.natAbs > 1000000000000000000000000000000
    · rw [if_pos c] at q
      by_cases c2 : (1000000000000000000000000000000 : Int) < i
      · exact iteD (decide_eq_true c2) (iteT (q.bad (Same.refl H)))
      · refine iteE (decide_eq_false c2) ⟨_, rfl, 10, 30, rfl, rfl, c30, _, _, rfl, rfl, _, _, rfl, rfl, _, rfl, ?_⟩
        rw [e30]
        exact iteD (decide_eq_true (by omega)) (q.bad (Same.refl H))
    · rw [if_neg c] at q
      refine iteE (decide_eq_false (by omega)) ⟨_, rfl, 10, 30, rfl, rfl, c30, _, _, rfl, rfl, _, _, rfl, rfl, _, rfl, ?_⟩
      rw [e30]
      exact iteE (decide_eq_false (by omega)) ⟨_, rfl, q.good (Same.refl H) (.num i)⟩
def spLJoin : Sp := fun vs H Q _ => ∃ (N : Addr → Prop) (t : Str), vs = [.str t] ∧ t.length ≤ 9000000 ∧ AnsL N H (mTxt t) Q
theorem ok_l_joined (T : Txt P w K mg a) : FnOk P w K mg base CX0 1 a.l_joined a.l_joined_d ["_law_text_here"] spLJoin := by
  refine T.l_joined.F.ok sc_l_joined (fun vs H Q E h => ?_) (fun cdv A outer s H vs Q E hr h => ?_)
  · obtain ⟨N, t, rfl, _⟩ := h
    rfl
  · obtain ⟨N, t, rfl, hl, q⟩ := h
    refine ⟨_, (pss_cons (ps_if (pt_cmpR op_gt (pe_callB call_lenV rfl T.b_len (by decide +kernel) (pa_cons (pv 0) pa_nil)) pe_int (nomark _)) (pss_one (ps_ret (pe_tup (pa_cons pe_non (pa_cons pe_str pa_nil))))) pss_nil)
      (pss_one (ps_ret (pe_tup (pa_cons (pv 0) (pa_cons pe_non pa_nil)))))), ?_⟩
    refine ⟨_, rfl, _, .txt t, rfl, .txt t, rfl, by show t.length ≤ _; omega, _, _, rfl, rfl, _, rfl, ?_⟩
    unfold mTxt at q
    by_cases c : t.length > 2000
    · rw [if_pos c] at q
      exact iteD (decide_eq_true (by show (2000 : Int) < (t.length : Nat); omega)) (q.bad (Same.refl H))
    · rw [if_neg c] at q
      exact iteE (decide_eq_false (by show ¬ (2000 : Int) < (t.length : Nat); omega)) ⟨_, rfl, q.good (Same.refl H) (.txt t)⟩
def spLQuo : Sp := fun vs H Q _ => ∃ i j : Int, vs = [.int i, .int j] ∧ j.natAbs ≤ 1000000000000000000000000000000 ∧ j ≠ 0 ∧ Q (.int (mQuo i j)) H
theorem ok_l_quotient (T : Txt P w K mg a) : FnOk P w K mg base CX0 1 a.l_quotient a.l_quotient_d ["_law_first", "_law_second"] spLQuo := by
  refine T.l_quotient.F.ok sc_l_quotient (fun vs H Q E h => ?_) (fun cdv A outer s H vs Q E hr h => ?_)
  · obtain ⟨i, j, rfl, _⟩ := h
    rfl
  · obtain ⟨i, j, rfl, hj, c, q⟩ := h
    refine ⟨_, (pss_cons (ps_set (i := 2) sc_l_quotient.nd rfl (Or.inl rfl) (pe_op op_fdivW (pe_callB call_abs rfl T.b_abs (by decide +kernel) (pa_cons (pv 0) pa_nil)) (pe_callB call_abs rfl T.b_abs (by decide +kernel) (pa_cons (pv 1) pa_nil))))
      (pss_cons (ps_if (pt_cmpR op_ne (pe_cmpR op_lt (pv 0) pe_int (nomark _)) (pe_cmpR op_lt (pv 1) pe_int (nomark _)) (nomark _)) (pss_one (ps_ret (pe_op op_sub pe_int (pv 2)))) pss_nil)
      (pss_one (ps_ret (pv 2))))), ?_⟩
    refine ⟨_, rfl, i, rfl, _, rfl, j, rfl, _, _, rfl, rfl, ?_, ?_⟩
    · rw [abs_if]
      refine wide_div (b := 100) (by omega) ?_ (by decide) (by decide)
      have e : (if j < 0 then -j else j).natAbs = j.natAbs := by split <;> omega
      rw [e]
      exact small_pow hj
    · rw [abs_if, abs_if]
      refine ⟨_, rfl, _, _, rfl, rfl, _, rfl, _, _, rfl, rfl, rfl, _, rfl, ?_⟩
      unfold mQuo at q
      by_cases c2 : decide (i < 0) = decide (j < 0)
      · rw [if_pos c2] at q
        refine iteE (by show (!decide (V.bl (decide (i < 0)) = V.bl (decide (j < 0)))) = false; rw [c2, decide_eq_true rfl]; rfl) ⟨_, rfl, q⟩
      · rw [if_neg c2] at q
        refine iteD (by rw [decide_eq_false (fun e => c2 (by injection e))]; rfl) ⟨_, rfl, _, _, rfl, rfl, ?_⟩
        show Q (.int (0 - ((i.natAbs : Int) / (j.natAbs : Int)))) H
        rw [Int.zero_sub]
        exact q
/-- kinds == [a, b] -/
theorem kindsLT {i : Nat} {σ : L2.St} {t : Addr} {H1 : Hp} {kx ky x1 x2 : Str} {R : Bool → Hp → Prop} (hσ : σ[i]? = some (some (.ref t))) (hs : H1 t = some (.lst [.str kx, .str ky])) (hk : okK [kx, ky] = true) (ha : okK [x1, x2] = true) (h : ∀ H2, Same H1 H2 → R (decide ([kx, ky] = [x1, x2])) H2) :
    tTest (tOp (rRow K false false) (tVar i) (tLst (tCons (tC (.str x1)) (tCons (tC (.str x2)) tNil)))) σ H1 R :=
  ⟨_, hσ, by show 2 ≤ sizeLine; decide, fun q hq => ⟨t, q, [kx, ky], [x1, x2], rfl, rfl, ⟨SqL.of (same_new hq _ _ _ hs), SqL.of upd_same⟩, hk, ha, _, rfl, h _ (same_new hq _)⟩⟩
theorem kindsLN {i : Nat} {σ : L2.St} {t : Addr} {H1 : Hp} {kx ky x1 x2 : Str} {R : Bool → Hp → Prop} (hσ : σ[i]? = some (some (.ref t))) (hs : H1 t = some (.lst [.str kx, .str ky])) (hk : okK [kx, ky] = true) (ha : okK [x1, x2] = true) (h : ∀ H2, Same H1 H2 → R (!decide ([kx, ky] = [x1, x2])) H2) :
    tTest (tOp (rRow K false true) (tVar i) (tLst (tCons (tC (.str x1)) (tCons (tC (.str x2)) tNil)))) σ H1 R :=
  ⟨_, hσ, by show 2 ≤ sizeLine; decide, fun q hq => ⟨t, q, [kx, ky], [x1, x2], rfl, rfl, ⟨SqL.of (same_new hq _ _ _ hs), SqL.of upd_same⟩, hk, ha, _, rfl, h _ (same_new hq _)⟩⟩
def spLSum : Sp := fun vs H Q _ => ∃ N v u x y, vs = [v, u] ∧ Rep (AtN N H) v x ∧ Rep (AtN N H) u y ∧ argsOk [x, y] ∧ AnsL N H (mAdd x y) Q
theorem ok_l_sum (T : Txt P w K mg a) : FnOk P w K mg base CX0 27 a.l_sum a.l_sum_d ["_law_first", "_law_second"] spLSum := by
  have G_l_kind := ok_l_kind (base := base) T
  have G_l_made := ok_l_made (base := base) T
  have G_l_bounded := ok_l_bounded (base := base) T
  have G_l_joined := ok_l_joined (base := base) T
  have G_l_text_of := ok_l_text_of (base := base) T
  refine T.l_sum.F.ok sc_l_sum (fun vs H Q E h => ?_) (fun cdv A outer s H vs Q E hr h => ?_)
  · obtain ⟨N, v, u, x, y, rfl, _⟩ := h
    rfl
  · obtain ⟨N, v, u, x, y, rfl, nv, nu, ok, q⟩ := h
    have rv := nv.n
    have ru := nu.n
    obtain ⟨o1, o2, o3⟩ := ok x (by simp)
    obtain ⟨p1, p2, p3⟩ := ok y (by simp)
    cases c1 : isNN x y with
    | true =>
      refine ⟨_, (pss_cons (ps_set (i := 2) sc_l_sum.nd rfl (Or.inl rfl) (pe_lst (pa_cons (pe_cd T.l_kind G_l_kind (hr.mono (by omega)) pass0 (pa_cons (pv 0) pa_nil)) (pa_cons (pe_cd T.l_kind G_l_kind (hr.mono (by omega)) pass0 (pa_cons (pv 1) pa_nil)) pa_nil))))
      (pss_cons (ps_if (pt_cmpR (op_eqLL hr.units) (pv 2) (pe_lst (pa_cons pe_str (pa_cons pe_str pa_nil))) (nomark _)) (pss_one (ps_ret (pe_cd T.l_bounded G_l_bounded (hr.mono (by omega)) pass0 (pa_cons (pe_op op_add (pv 0) (pv 1)) pa_nil)))) pss_nil)
      (pss_cons (ps_if (pt_cmpR (op_eqLL hr.units) (pv 2) (pe_lst (pa_cons pe_str (pa_cons pe_str pa_nil))) (nomark _)) (pss_one (ps_ret (pe_cd T.l_made G_l_made (hr.mono (by omega)) pass0 (pa_cons (pe_op op_add (pv 0) (pv 1)) pa_nil)))) pss_nil)
      (pss_cons (ps_if (pt_cmpR op_notIn_seq pe_str (pv 2) (by rfl)) (pss_one (ps_ret (pe_tup (pa_cons pe_non (pa_cons pe_str pa_nil))))) pss_nil)
      (pss_cons (ps_set (i := 3) sc_l_sum.nd rfl (Or.inl rfl) (pe_cd T.l_text_of G_l_text_of (hr.mono (by omega)) pass0 (pa_cons (pv 0) pa_nil)))
      (pss_cons (ps_set (i := 4) sc_l_sum.nd rfl (Or.inl rfl) (pe_cd T.l_text_of G_l_text_of (hr.mono (by omega)) pass0 (pa_cons (pv 1) pa_nil)))
      (pss_cons (ps_if (PW.pt (pw_or (pt_cmpR op_isN (pv 3) pe_non (nomark _)) (pw_or1 (pt_cmpR op_isN (pv 4) pe_non (nomark _))))) (pss_one (ps_ret (pe_tup (pa_cons pe_non (pa_cons pe_str pa_nil))))) pss_nil)
      (pss_one (ps_ret (pe_cd T.l_joined G_l_joined (hr.mono (by omega)) pass0 (pa_cons (pe_op op_add_str (pv 3) (pv 4)) pa_nil))))))))))), ?_⟩
      refine ⟨_, rfl, v, x, rfl, rv.rd, _, rfl, u, y, rfl, ru.rd, by show 2 ≤ sizeLine; decide, fun t ht => ?_⟩
      have s1 : Same H (upd H t (.lst [.str (kindN x), .str (kindN y)])) := same_new ht _
      have q1 := upd_same (H := H) (a := t) (o := .lst [.str (kindN x), .str (kindN y)])
      refine kindsLT rfl q1 (kinds_ok x y) (by kernel_rfl) fun H2 s2 => ?_
      refine iteD ((kk_nn x y).trans c1) ?_
      cases x with
      | num i =>
        cases y with
        | num j =>
          cases rv
          cases ru
          exact ⟨_, rfl, _, rfl, _, _, rfl, rfl, N, _, rfl, AnsL.later (r := mNum (i + j)) q (s1.trans s2)⟩
        | _ => cases c1
      | _ => cases c1
    | false =>
      refine ⟨_, (pss_cons (ps_set (i := 2) sc_l_sum.nd rfl (Or.inl rfl) (pe_lst (pa_cons (pe_cd T.l_kind G_l_kind (hr.mono (by omega)) pass0 (pa_cons (pv 0) pa_nil)) (pa_cons (pe_cd T.l_kind G_l_kind (hr.mono (by omega)) pass0 (pa_cons (pv 1) pa_nil)) pa_nil))))
      (pss_cons (ps_if (pt_cmpR (op_eqLL hr.units) (pv 2) (pe_lst (pa_cons pe_str (pa_cons pe_str pa_nil))) (nomark _)) (pss_one (ps_ret (pe_cd T.l_bounded G_l_bounded (hr.mono (by omega)) pass0 (pa_cons (pe_op op_cat (pv 0) (pv 1)) pa_nil)))) pss_nil)
      (pss_cons (ps_if (pt_cmpR (op_eqLL hr.units) (pv 2) (pe_lst (pa_cons pe_str (pa_cons pe_str pa_nil))) (nomark _)) (pss_one (ps_ret (pe_cd T.l_made G_l_made (hr.mono (by omega)) pass0 (pa_cons (pe_op op_cat (pv 0) (pv 1)) pa_nil)))) pss_nil)
      (pss_cons (ps_if (pt_cmpR op_notIn_seq pe_str (pv 2) (by rfl)) (pss_one (ps_ret (pe_tup (pa_cons pe_non (pa_cons pe_str pa_nil))))) pss_nil)
      (pss_cons (ps_set (i := 3) sc_l_sum.nd rfl (Or.inl rfl) (pe_cd T.l_text_of G_l_text_of (hr.mono (by omega)) pass0 (pa_cons (pv 0) pa_nil)))
      (pss_cons (ps_set (i := 4) sc_l_sum.nd rfl (Or.inl rfl) (pe_cd T.l_text_of G_l_text_of (hr.mono (by omega)) pass0 (pa_cons (pv 1) pa_nil)))
      (pss_cons (ps_if (PW.pt (pw_or (pt_cmpR op_isN (pv 3) pe_non (nomark _)) (pw_or1 (pt_cmpR op_isN (pv 4) pe_non (nomark _))))) (pss_one (ps_ret (pe_tup (pa_cons pe_non (pa_cons pe_str pa_nil))))) pss_nil)
      (pss_one (ps_ret (pe_cd T.l_joined G_l_joined (hr.mono (by omega)) pass0 (pa_cons (pe_op op_add_str (pv 3) (pv 4)) pa_nil))))))))))), ?_⟩
      refine ⟨_, rfl, v, x, rfl, rv.rd, _, rfl, u, y, rfl, ru.rd, by show 2 ≤ sizeLine; decide, fun t ht => ?_⟩
      have s1 : Same H (upd H t (.lst [.str (kindN x), .str (kindN y)])) := same_new ht _
      have q1 := upd_same (H := H) (a := t) (o := .lst [.str (kindN x), .str (kindN y)])
      refine kindsLT rfl q1 (kinds_ok x y) (by kernel_rfl) fun H2 s2 => ?_
      refine iteE ((kk_nn x y).trans c1) ?_
      refine kindsLT rfl (s2 _ _ q1) (kinds_ok x y) (by kernel_rfl) fun H3 s3 => ?_
      have s4 := (s1.trans s2).trans s3
      cases c2 : isLL x y with
      | true =>
        refine iteD ((kk_ll x y).trans c2) ?_
        cases x with
        | lst l =>
          cases y with
          | lst m =>
            cases nv with
            | @lst d1 xs _ g1' r1 =>
            cases nu with
            | @lst d2 ys _ g2' r2 =>
            have g1 := g1'.1
            have g2 := g2'.1
            have k1 := sizeL_len l
            have k2 := sizeL_len m
            simp only [sizeV] at o3 p3
            simp only [depthV] at o2 p2
            have e1 := r1.length
            have e2 := r2.length
            refine ⟨_, rfl, _, rfl, d1, d2, xs, ys, rfl, rfl, s4 _ _ g1, s4 _ _ g2, le_line (by omega), fun p hp => ?_⟩
            have s5 := same_snoc s4 hp (.lst (xs ++ ys))
            refine ⟨N, _, _, rfl, .lst ⟨upd_same, AnsL.free q s4 hp⟩ ((r1.append r2).sameN s5), ?_, ?_, ?_, AnsL.later (r := mMade (.lst (l ++ m))) q s5⟩
            · show okL (l ++ m) = true
              rw [okL_append, Bool.and_eq_true]
              exact ⟨o1, p1⟩
            · simp only [depthV, depthL_append]
              omega
            · simp only [sizeV, sizeL_append]
              omega
          | _ => cases c2
        | _ => cases c2
      | false =>
        refine iteE ((kk_ll x y).trans c2) ?_
        have em : mAdd x y = (if isTxt x || isTxt y then (match textOf x, textOf y with | some s, some t => mTxt (s ++ t) | _, _ => .error "not a text") else .error "not to be added" : Res) := by
          cases x <;> cases y <;> first | rfl | (simp [isNN] at c1; done) | (simp [isLL] at c2; done)
        rw [em] at q
        refine ⟨_, rfl, t, [.str (kindN x), .str (kindN y)], rfl, .inl (SqL.of (s3 _ _ (s2 _ _ q1))), rfl, rfl, _, rfl, ?_⟩
        have ei := in_kinds x y
        cases c3 : (isTxt x || isTxt y) with
        | false =>
          rw [c3] at q ei
          exact iteD (by rw [ei]; rfl) (q.bad s4)
        | true =>
          rw [c3] at q ei
          refine iteE (by rw [ei]; rfl) ?_
          refine ⟨_, rfl, v, x, rfl, rv.same s4, o1, fun H4 s5 => ⟨_, rfl, u, y, rfl, (ru.same s4).same s5, p1, fun H5 s6 => ?_⟩⟩
          have s7 := (s4.trans s5).trans s6
          rw [if_pos rfl] at q
          cases ex : textOf x with
          | none =>
            rw [ex] at q
            exact ⟨_, rfl, rfl, _, rfl, iteT (iteT (AnsL.bad q s7))⟩
          | some z1 =>
            cases ey : textOf y with
            | none =>
              rw [ex, ey] at q
              exact ⟨_, rfl, rfl, _, rfl, iteF ⟨_, rfl, rfl, _, rfl, iteT (AnsL.bad q s7)⟩⟩
            | some z2 =>
              rw [ex, ey] at q
              have k1 := text_len ex o1
              have k2 := text_len ey p1
              have el : (z1 ++ z2).length = z1.length + z2.length := Array.size_append
              exact ⟨_, rfl, rfl, _, rfl, iteF ⟨_, rfl, rfl, _, rfl, iteF ⟨_, rfl, _, rfl, _, _, rfl, rfl, le_line (by omega), N, _, rfl, by omega, AnsL.later (r := mTxt (z1 ++ z2)) q s7⟩⟩⟩
def spLOper : Sp := fun vs H Q _ => ∃ N g v u x y, vs = [.str g, v, u] ∧ (g ∈ signs ∧ isLogic g = false) ∧ Rep (AtN N H) v x ∧ Rep (AtN N H) u y ∧ argsOk [x, y] ∧ AnsL N H (mOperate g x y) Q
theorem ok_l_operate (T : Txt P w K mg a) : FnOk P w K mg base CX0 60 a.l_operate a.l_operate_d ["_law_sign", "_law_first", "_law_second"] spLOper := by
  have G_l_kind := ok_l_kind (base := base) T
  have G_l_sum := ok_l_sum (base := base) T
  have G_l_same := ok_l_same (base := base) T 43
  have G_l_bounded := ok_l_bounded (base := base) T
  have G_l_quotient := ok_l_quotient (base := base) T
  refine T.l_operate.F.ok sc_l_operate (fun vs H Q E h => ?_) (fun cdv A outer s H vs Q E hr h => ?_)
  · obtain ⟨N, g, v, u, x, y, rfl, _⟩ := h
    rfl
  · obtain ⟨N, g, v, u, x, y, rfl, ⟨hg, hl⟩, nv, nu, ok, q⟩ := h
    have rv := nv.n
    have ru := nu.n
    have ox := ok x (by simp)
    have oy := ok y (by simp)
    have rkx := rk_le x
    have inb : ∀ (g : Str) (b : Bool), inV (.str g) [.str "-", .str "*", .str "/"] = b → ∀ {H1 : Hp} {σ : L2.St} {R : Bool → Hp → Prop}, σ[0]? = some (some (.str g)) → (∀ H2, Same H1 H2 → R b H2) → tTest (tOp (rIn K false) (tVar 0) (tTup (tCons (tC (.str "-")) (tCons (tC (.str "*")) (tCons (tC (.str "/")) tNil))))) σ H1 R := fun g b hb {H1 σ R} hσ h =>
      in_strs (ss := [Str.ofString "-", Str.ofString "*", Str.ofString "/"]) hσ (fun Q q => q) (by show 3 ≤ 100; decide) b hb h
    simp only [signs, List.mem_cons, List.not_mem_nil, or_false] at hg
    rcases hg with rfl | rfl | rfl | rfl | rfl | rfl | rfl | rfl | rfl | rfl | rfl | rfl
    · skip
      refine ⟨_, (pss_cons (ps_set (i := 3) sc_l_operate.nd rfl (Or.inl rfl) (pe_lst (pa_cons (pe_cd T.l_kind G_l_kind (hr.mono (by omega)) pass0 (pa_cons (pv 1) pa_nil)) (pa_cons (pe_cd T.l_kind G_l_kind (hr.mono (by omega)) pass0 (pa_cons (pv 2) pa_nil)) pa_nil))))
      (pss_cons (ps_if (pt_cmpR op_eq (pv 0) pe_str (nomark _)) (pss_one (ps_ret (pe_cd T.l_sum G_l_sum (hr.mono (by omega)) pass0 (pa_cons (pv 1) (pa_cons (pv 2) pa_nil))))) pss_nil)
      (pss_cons (ps_if (pt_cmpR op_eq (pv 0) pe_str (nomark _)) (pss_one (ps_ret (pe_tup (pa_cons (pe_cd T.l_same G_l_same (hr.mono (by omega)) pass0 (pa_cons (pv 1) (pa_cons (pv 2) pa_nil))) (pa_cons pe_non pa_nil))))) pss_nil)
      (pss_cons (ps_if (pt_cmpR op_eq (pv 0) pe_str (nomark _)) (pss_one (ps_ret (pe_tup (pa_cons (pe_not (pe_cd T.l_same G_l_same (hr.mono (by omega)) pass0 (pa_cons (pv 1) (pa_cons (pv 2) pa_nil)))) (pa_cons pe_non pa_nil))))) pss_nil)
      (pss_cons (ps_if (pt_cmpR op_in_seq (pv 0) (pe_tup (pa_cons pe_str (pa_cons pe_str (pa_cons pe_str pa_nil)))) (by rfl)) (pss_cons (ps_if (pt_cmpR (op_neLL hr.units) (pv 3) (pe_lst (pa_cons pe_str (pa_cons pe_str pa_nil))) (nomark _)) (pss_one (ps_ret (pe_tup (pa_cons pe_non (pa_cons pe_str pa_nil))))) pss_nil)
      (pss_cons (ps_if (pt_cmpR op_eq (pv 0) pe_str (nomark _)) (pss_one (ps_ret (pe_cd T.l_bounded G_l_bounded (hr.mono (by omega)) pass0 (pa_cons (pe_op op_sub (pv 1) (pv 2)) pa_nil)))) pss_nil)
      (pss_cons (ps_if (pt_cmpR op_eq (pv 0) pe_str (nomark _)) (pss_one (ps_ret (pe_cd T.l_bounded G_l_bounded (hr.mono (by omega)) pass0 (pa_cons (pe_op op_mulW (pv 1) (pv 2)) pa_nil)))) pss_nil)
      (pss_cons (ps_if (pt_cmpR op_eq (pv 2) pe_int (nomark _)) (pss_one (ps_ret (pe_tup (pa_cons pe_non (pa_cons pe_str pa_nil))))) pss_nil)
      (pss_one (ps_ret (pe_cd T.l_bounded G_l_bounded (hr.mono (by omega)) pass0 (pa_cons (pe_cd T.l_quotient G_l_quotient (hr.mono (by omega)) pass0 (pa_cons (pv 1) (pa_cons (pv 2) pa_nil))) pa_nil)))))))) pss_nil)
      (pss_cons (ps_if (PW.pt (pw_and (pt_cmpR (op_neLL hr.units) (pv 3) (pe_lst (pa_cons pe_str (pa_cons pe_str pa_nil))) (nomark _)) (pw_and1 (pt_cmpR (op_neLL hr.units) (pv 3) (pe_lst (pa_cons pe_str (pa_cons pe_str pa_nil))) (nomark _))))) (pss_one (ps_ret (pe_tup (pa_cons pe_non (pa_cons pe_str pa_nil))))) pss_nil)
      (pss_cons (ps_if (pt_cmpR op_eq (pv 0) pe_str (nomark _)) (pss_one (ps_ret (pe_tup (pa_cons (pe_cmpR op_lt (pv 1) (pv 2) (nomark _)) (pa_cons pe_non pa_nil))))) pss_nil)
      (pss_cons (ps_if (pt_cmpR op_eq (pv 0) pe_str (nomark _)) (pss_one (ps_ret (pe_tup (pa_cons (pe_cmpR op_le (pv 1) (pv 2) (nomark _)) (pa_cons pe_non pa_nil))))) pss_nil)
      (pss_cons (ps_if (pt_cmpR op_eq (pv 0) pe_str (nomark _)) (pss_one (ps_ret (pe_tup (pa_cons (pe_cmpR op_gt (pv 1) (pv 2) (nomark _)) (pa_cons pe_non pa_nil))))) pss_nil)
      (pss_one (ps_ret (pe_tup (pa_cons (pe_cmpR op_ge (pv 1) (pv 2) (nomark _)) (pa_cons pe_non pa_nil)))))))))))))), ?_⟩
      refine ⟨_, rfl, v, x, rfl, rv.rd, _, rfl, u, y, rfl, ru.rd, by show 2 ≤ sizeLine; decide, fun t ht => ?_⟩
      have s1 : Same H (upd H t (.lst [.str (kindN x), .str (kindN y)])) := same_new ht _
      have q1 := upd_same (H := H) (a := t) (o := .lst [.str (kindN x), .str (kindN y)])
      exact ⟨_, rfl, rfl, _, rfl, iteT ⟨_, rfl, _, rfl, N, v, u, x, y, rfl, nv.sameN s1, nu.sameN s1, ok, AnsL.later (r := mAdd x y) q s1⟩⟩
    · skip
      refine ⟨_, (pss_cons (ps_set (i := 3) sc_l_operate.nd rfl (Or.inl rfl) (pe_lst (pa_cons (pe_cd T.l_kind G_l_kind (hr.mono (by omega)) pass0 (pa_cons (pv 1) pa_nil)) (pa_cons (pe_cd T.l_kind G_l_kind (hr.mono (by omega)) pass0 (pa_cons (pv 2) pa_nil)) pa_nil))))
      (pss_cons (ps_if (pt_cmpR op_eq (pv 0) pe_str (nomark _)) (pss_one (ps_ret (pe_cd T.l_sum G_l_sum (hr.mono (by omega)) pass0 (pa_cons (pv 1) (pa_cons (pv 2) pa_nil))))) pss_nil)
      (pss_cons (ps_if (pt_cmpR op_eq (pv 0) pe_str (nomark _)) (pss_one (ps_ret (pe_tup (pa_cons (pe_cd T.l_same G_l_same (hr.mono (by omega)) pass0 (pa_cons (pv 1) (pa_cons (pv 2) pa_nil))) (pa_cons pe_non pa_nil))))) pss_nil)
      (pss_cons (ps_if (pt_cmpR op_eq (pv 0) pe_str (nomark _)) (pss_one (ps_ret (pe_tup (pa_cons (pe_not (pe_cd T.l_same G_l_same (hr.mono (by omega)) pass0 (pa_cons (pv 1) (pa_cons (pv 2) pa_nil)))) (pa_cons pe_non pa_nil))))) pss_nil)
      (pss_cons (ps_if (pt_cmpR op_in_seq (pv 0) (pe_tup (pa_cons pe_str (pa_cons pe_str (pa_cons pe_str pa_nil)))) (by rfl)) (pss_cons (ps_if (pt_cmpR (op_neLL hr.units) (pv 3) (pe_lst (pa_cons pe_str (pa_cons pe_str pa_nil))) (nomark _)) (pss_one (ps_ret (pe_tup (pa_cons pe_non (pa_cons pe_str pa_nil))))) pss_nil)
      (pss_cons (ps_if (pt_cmpR op_eq (pv 0) pe_str (nomark _)) (pss_one (ps_ret (pe_cd T.l_bounded G_l_bounded (hr.mono (by omega)) pass0 (pa_cons (pe_op op_sub (pv 1) (pv 2)) pa_nil)))) pss_nil)
      (pss_cons (ps_if (pt_cmpR op_eq (pv 0) pe_str (nomark _)) (pss_one (ps_ret (pe_cd T.l_bounded G_l_bounded (hr.mono (by omega)) pass0 (pa_cons (pe_op op_mulW (pv 1) (pv 2)) pa_nil)))) pss_nil)
      (pss_cons (ps_if (pt_cmpR op_eq (pv 2) pe_int (nomark _)) (pss_one (ps_ret (pe_tup (pa_cons pe_non (pa_cons pe_str pa_nil))))) pss_nil)
      (pss_one (ps_ret (pe_cd T.l_bounded G_l_bounded (hr.mono (by omega)) pass0 (pa_cons (pe_cd T.l_quotient G_l_quotient (hr.mono (by omega)) pass0 (pa_cons (pv 1) (pa_cons (pv 2) pa_nil))) pa_nil)))))))) pss_nil)
      (pss_cons (ps_if (PW.pt (pw_and (pt_cmpR (op_neLL hr.units) (pv 3) (pe_lst (pa_cons pe_str (pa_cons pe_str pa_nil))) (nomark _)) (pw_and1 (pt_cmpR (op_neLL hr.units) (pv 3) (pe_lst (pa_cons pe_str (pa_cons pe_str pa_nil))) (nomark _))))) (pss_one (ps_ret (pe_tup (pa_cons pe_non (pa_cons pe_str pa_nil))))) pss_nil)
      (pss_cons (ps_if (pt_cmpR op_eq (pv 0) pe_str (nomark _)) (pss_one (ps_ret (pe_tup (pa_cons (pe_cmpR op_lt (pv 1) (pv 2) (nomark _)) (pa_cons pe_non pa_nil))))) pss_nil)
      (pss_cons (ps_if (pt_cmpR op_eq (pv 0) pe_str (nomark _)) (pss_one (ps_ret (pe_tup (pa_cons (pe_cmpR op_le (pv 1) (pv 2) (nomark _)) (pa_cons pe_non pa_nil))))) pss_nil)
      (pss_cons (ps_if (pt_cmpR op_eq (pv 0) pe_str (nomark _)) (pss_one (ps_ret (pe_tup (pa_cons (pe_cmpR op_gt (pv 1) (pv 2) (nomark _)) (pa_cons pe_non pa_nil))))) pss_nil)
      (pss_one (ps_ret (pe_tup (pa_cons (pe_cmpR op_ge (pv 1) (pv 2) (nomark _)) (pa_cons pe_non pa_nil)))))))))))))), ?_⟩
      refine ⟨_, rfl, v, x, rfl, rv.rd, _, rfl, u, y, rfl, ru.rd, by show 2 ≤ sizeLine; decide, fun t ht => ?_⟩
      have s1 : Same H (upd H t (.lst [.str (kindN x), .str (kindN y)])) := same_new ht _
      have q1 := upd_same (H := H) (a := t) (o := .lst [.str (kindN x), .str (kindN y)])
      refine ⟨_, rfl, rfl, _, rfl, iteF ⟨_, rfl, rfl, _, rfl, iteF ⟨_, rfl, rfl, _, rfl, iteF (inb _ true (by rfl) rfl fun H2 s2 => iteT ?_)⟩⟩⟩
      have q : AnsL N H (mCalc "-" x y) Q := q
      refine kindsLN rfl (s2 _ _ q1) (kinds_ok x y) (by kernel_rfl) fun H3 s3 => ?_
      have s4 := (s1.trans s2).trans s3
      cases c1 : isNN x y with
      | false =>
        have em : mCalc "-" x y = .error "not a number" := by cases x <;> cases y <;> first | rfl | (simp [isNN] at c1; done)
        rw [em] at q
        exact iteD (congrArg not ((kk_nn x y).trans c1)) (q.bad s4)
      | true =>
        refine iteE (congrArg not ((kk_nn x y).trans c1)) ?_
        cases x with
        | num i =>
          cases y with
          | num j =>
            cases rv
            cases ru
            have hi := num_le ox.1
            have hj := num_le oy.1
            exact ⟨_, rfl, rfl, _, rfl, iteT ⟨_, rfl, _, rfl, _, _, rfl, rfl, N, _, rfl, AnsL.later (r := mNum (i - j)) q s4⟩⟩
          | _ => cases c1
        | _ => cases c1
    · skip
      refine ⟨_, (pss_cons (ps_set (i := 3) sc_l_operate.nd rfl (Or.inl rfl) (pe_lst (pa_cons (pe_cd T.l_kind G_l_kind (hr.mono (by omega)) pass0 (pa_cons (pv 1) pa_nil)) (pa_cons (pe_cd T.l_kind G_l_kind (hr.mono (by omega)) pass0 (pa_cons (pv 2) pa_nil)) pa_nil))))
      (pss_cons (ps_if (pt_cmpR op_eq (pv 0) pe_str (nomark _)) (pss_one (ps_ret (pe_cd T.l_sum G_l_sum (hr.mono (by omega)) pass0 (pa_cons (pv 1) (pa_cons (pv 2) pa_nil))))) pss_nil)
      (pss_cons (ps_if (pt_cmpR op_eq (pv 0) pe_str (nomark _)) (pss_one (ps_ret (pe_tup (pa_cons (pe_cd T.l_same G_l_same (hr.mono (by omega)) pass0 (pa_cons (pv 1) (pa_cons (pv 2) pa_nil))) (pa_cons pe_non pa_nil))))) pss_nil)
      (pss_cons (ps_if (pt_cmpR op_eq (pv 0) pe_str (nomark _)) (pss_one (ps_ret (pe_tup (pa_cons (pe_not (pe_cd T.l_same G_l_same (hr.mono (by omega)) pass0 (pa_cons (pv 1) (pa_cons (pv 2) pa_nil)))) (pa_cons pe_non pa_nil))))) pss_nil)
      (pss_cons (ps_if (pt_cmpR op_in_seq (pv 0) (pe_tup (pa_cons pe_str (pa_cons pe_str (pa_cons pe_str pa_nil)))) (by rfl)) (pss_cons (ps_if (pt_cmpR (op_neLL hr.units) (pv 3) (pe_lst (pa_cons pe_str (pa_cons pe_str pa_nil))) (nomark _)) (pss_one (ps_ret (pe_tup (pa_cons pe_non (pa_cons pe_str pa_nil))))) pss_nil)
      (pss_cons (ps_if (pt_cmpR op_eq (pv 0) pe_str (nomark _)) (pss_one (ps_ret (pe_cd T.l_bounded G_l_bounded (hr.mono (by omega)) pass0 (pa_cons (pe_op op_sub (pv 1) (pv 2)) pa_nil)))) pss_nil)
      (pss_cons (ps_if (pt_cmpR op_eq (pv 0) pe_str (nomark _)) (pss_one (ps_ret (pe_cd T.l_bounded G_l_bounded (hr.mono (by omega)) pass0 (pa_cons (pe_op op_mulW (pv 1) (pv 2)) pa_nil)))) pss_nil)
      (pss_cons (ps_if (pt_cmpR op_eq (pv 2) pe_int (nomark _)) (pss_one (ps_ret (pe_tup (pa_cons pe_non (pa_cons pe_str pa_nil))))) pss_nil)
      (pss_one (ps_ret (pe_cd T.l_bounded G_l_bounded (hr.mono (by omega)) pass0 (pa_cons (pe_cd T.l_quotient G_l_quotient (hr.mono (by omega)) pass0 (pa_cons (pv 1) (pa_cons (pv 2) pa_nil))) pa_nil)))))))) pss_nil)
      (pss_cons (ps_if (PW.pt (pw_and (pt_cmpR (op_neLL hr.units) (pv 3) (pe_lst (pa_cons pe_str (pa_cons pe_str pa_nil))) (nomark _)) (pw_and1 (pt_cmpR (op_neLL hr.units) (pv 3) (pe_lst (pa_cons pe_str (pa_cons pe_str pa_nil))) (nomark _))))) (pss_one (ps_ret (pe_tup (pa_cons pe_non (pa_cons pe_str pa_nil))))) pss_nil)
      (pss_cons (ps_if (pt_cmpR op_eq (pv 0) pe_str (nomark _)) (pss_one (ps_ret (pe_tup (pa_cons (pe_cmpR op_lt (pv 1) (pv 2) (nomark _)) (pa_cons pe_non pa_nil))))) pss_nil)
      (pss_cons (ps_if (pt_cmpR op_eq (pv 0) pe_str (nomark _)) (pss_one (ps_ret (pe_tup (pa_cons (pe_cmpR op_le (pv 1) (pv 2) (nomark _)) (pa_cons pe_non pa_nil))))) pss_nil)
      (pss_cons (ps_if (pt_cmpR op_eq (pv 0) pe_str (nomark _)) (pss_one (ps_ret (pe_tup (pa_cons (pe_cmpR op_gt (pv 1) (pv 2) (nomark _)) (pa_cons pe_non pa_nil))))) pss_nil)
      (pss_one (ps_ret (pe_tup (pa_cons (pe_cmpR op_ge (pv 1) (pv 2) (nomark _)) (pa_cons pe_non pa_nil)))))))))))))), ?_⟩
      refine ⟨_, rfl, v, x, rfl, rv.rd, _, rfl, u, y, rfl, ru.rd, by show 2 ≤ sizeLine; decide, fun t ht => ?_⟩
      have s1 : Same H (upd H t (.lst [.str (kindN x), .str (kindN y)])) := same_new ht _
      have q1 := upd_same (H := H) (a := t) (o := .lst [.str (kindN x), .str (kindN y)])
      refine ⟨_, rfl, rfl, _, rfl, iteF ⟨_, rfl, rfl, _, rfl, iteF ⟨_, rfl, rfl, _, rfl, iteF (inb _ true (by rfl) rfl fun H2 s2 => iteT ?_)⟩⟩⟩
      have q : AnsL N H (mCalc "*" x y) Q := q
      refine kindsLN rfl (s2 _ _ q1) (kinds_ok x y) (by kernel_rfl) fun H3 s3 => ?_
      have s4 := (s1.trans s2).trans s3
      cases c1 : isNN x y with
      | false =>
        have em : mCalc "*" x y = .error "not a number" := by cases x <;> cases y <;> first | rfl | (simp [isNN] at c1; done)
        rw [em] at q
        exact iteD (congrArg not ((kk_nn x y).trans c1)) (q.bad s4)
      | true =>
        refine iteE (congrArg not ((kk_nn x y).trans c1)) ?_
        cases x with
        | num i =>
          cases y with
          | num j =>
            cases rv
            cases ru
            have hi := num_le ox.1
            have hj := num_le oy.1
            exact ⟨_, rfl, rfl, _, rfl, iteF ⟨_, rfl, rfl, _, rfl, iteT ⟨_, rfl, _, rfl, _, _, rfl, rfl, wide_mul (small_pow hi) (small_pow hj) (by decide) (by decide) (by decide), N, _, rfl, AnsL.later (r := mNum (i * j)) q s4⟩⟩⟩
          | _ => cases c1
        | _ => cases c1
    · skip
      refine ⟨_, (pss_cons (ps_set (i := 3) sc_l_operate.nd rfl (Or.inl rfl) (pe_lst (pa_cons (pe_cd T.l_kind G_l_kind (hr.mono (by omega)) pass0 (pa_cons (pv 1) pa_nil)) (pa_cons (pe_cd T.l_kind G_l_kind (hr.mono (by omega)) pass0 (pa_cons (pv 2) pa_nil)) pa_nil))))
      (pss_cons (ps_if (pt_cmpR op_eq (pv 0) pe_str (nomark _)) (pss_one (ps_ret (pe_cd T.l_sum G_l_sum (hr.mono (by omega)) pass0 (pa_cons (pv 1) (pa_cons (pv 2) pa_nil))))) pss_nil)
      (pss_cons (ps_if (pt_cmpR op_eq (pv 0) pe_str (nomark _)) (pss_one (ps_ret (pe_tup (pa_cons (pe_cd T.l_same G_l_same (hr.mono (by omega)) pass0 (pa_cons (pv 1) (pa_cons (pv 2) pa_nil))) (pa_cons pe_non pa_nil))))) pss_nil)
      (pss_cons (ps_if (pt_cmpR op_eq (pv 0) pe_str (nomark _)) (pss_one (ps_ret (pe_tup (pa_cons (pe_not (pe_cd T.l_same G_l_same (hr.mono (by omega)) pass0 (pa_cons (pv 1) (pa_cons (pv 2) pa_nil)))) (pa_cons pe_non pa_nil))))) pss_nil)
      (pss_cons (ps_if (pt_cmpR op_in_seq (pv 0) (pe_tup (pa_cons pe_str (pa_cons pe_str (pa_cons pe_str pa_nil)))) (by rfl)) (pss_cons (ps_if (pt_cmpR (op_neLL hr.units) (pv 3) (pe_lst (pa_cons pe_str (pa_cons pe_str pa_nil))) (nomark _)) (pss_one (ps_ret (pe_tup (pa_cons pe_non (pa_cons pe_str pa_nil))))) pss_nil)
      (pss_cons (ps_if (pt_cmpR op_eq (pv 0) pe_str (nomark _)) (pss_one (ps_ret (pe_cd T.l_bounded G_l_bounded (hr.mono (by omega)) pass0 (pa_cons (pe_op op_sub (pv 1) (pv 2)) pa_nil)))) pss_nil)
      (pss_cons (ps_if (pt_cmpR op_eq (pv 0) pe_str (nomark _)) (pss_one (ps_ret (pe_cd T.l_bounded G_l_bounded (hr.mono (by omega)) pass0 (pa_cons (pe_op op_mulW (pv 1) (pv 2)) pa_nil)))) pss_nil)
      (pss_cons (ps_if (pt_cmpR op_eq (pv 2) pe_int (nomark _)) (pss_one (ps_ret (pe_tup (pa_cons pe_non (pa_cons pe_str pa_nil))))) pss_nil)
      (pss_one (ps_ret (pe_cd T.l_bounded G_l_bounded (hr.mono (by omega)) pass0 (pa_cons (pe_cd T.l_quotient G_l_quotient (hr.mono (by omega)) pass0 (pa_cons (pv 1) (pa_cons (pv 2) pa_nil))) pa_nil)))))))) pss_nil)
      (pss_cons (ps_if (PW.pt (pw_and (pt_cmpR (op_neLL hr.units) (pv 3) (pe_lst (pa_cons pe_str (pa_cons pe_str pa_nil))) (nomark _)) (pw_and1 (pt_cmpR (op_neLL hr.units) (pv 3) (pe_lst (pa_cons pe_str (pa_cons pe_str pa_nil))) (nomark _))))) (pss_one (ps_ret (pe_tup (pa_cons pe_non (pa_cons pe_str pa_nil))))) pss_nil)
      (pss_cons (ps_if (pt_cmpR op_eq (pv 0) pe_str (nomark _)) (pss_one (ps_ret (pe_tup (pa_cons (pe_cmpR op_lt (pv 1) (pv 2) (nomark _)) (pa_cons pe_non pa_nil))))) pss_nil)
      (pss_cons (ps_if (pt_cmpR op_eq (pv 0) pe_str (nomark _)) (pss_one (ps_ret (pe_tup (pa_cons (pe_cmpR op_le (pv 1) (pv 2) (nomark _)) (pa_cons pe_non pa_nil))))) pss_nil)
      (pss_cons (ps_if (pt_cmpR op_eq (pv 0) pe_str (nomark _)) (pss_one (ps_ret (pe_tup (pa_cons (pe_cmpR op_gt (pv 1) (pv 2) (nomark _)) (pa_cons pe_non pa_nil))))) pss_nil)
      (pss_one (ps_ret (pe_tup (pa_cons (pe_cmpR op_ge (pv 1) (pv 2) (nomark _)) (pa_cons pe_non pa_nil)))))))))))))), ?_⟩
      refine ⟨_, rfl, v, x, rfl, rv.rd, _, rfl, u, y, rfl, ru.rd, by show 2 ≤ sizeLine; decide, fun t ht => ?_⟩
      have s1 : Same H (upd H t (.lst [.str (kindN x), .str (kindN y)])) := same_new ht _
      have q1 := upd_same (H := H) (a := t) (o := .lst [.str (kindN x), .str (kindN y)])
      refine ⟨_, rfl, rfl, _, rfl, iteF ⟨_, rfl, rfl, _, rfl, iteF ⟨_, rfl, rfl, _, rfl, iteF (inb _ true (by rfl) rfl fun H2 s2 => iteT ?_)⟩⟩⟩
      have q : AnsL N H (mCalc "/" x y) Q := q
      refine kindsLN rfl (s2 _ _ q1) (kinds_ok x y) (by kernel_rfl) fun H3 s3 => ?_
      have s4 := (s1.trans s2).trans s3
      cases c1 : isNN x y with
      | false =>
        have em : mCalc "/" x y = .error "not a number" := by cases x <;> cases y <;> first | rfl | (simp [isNN] at c1; done)
        rw [em] at q
        exact iteD (congrArg not ((kk_nn x y).trans c1)) (q.bad s4)
      | true =>
        refine iteE (congrArg not ((kk_nn x y).trans c1)) ?_
        cases x with
        | num i =>
          cases y with
          | num j =>
            cases rv
            cases ru
            have hi := num_le ox.1
            have hj := num_le oy.1
            have q : AnsL N H (if j = 0 then .error "division by 0" else mNum (mQuo i j)) Q := q
            refine ⟨_, rfl, rfl, _, rfl, iteF ⟨_, rfl, rfl, _, rfl, iteF ⟨_, rfl, rfl, _, rfl, ?_⟩⟩⟩
            by_cases c3 : j = 0
            · rw [if_pos c3] at q
              exact iteD (decide_eq_true (by rw [c3])) (q.bad s4)
            · rw [if_neg c3] at q
              exact iteE (decide_eq_false fun e => c3 (by injection e)) ⟨_, rfl, _, rfl, i, j, rfl, hj, c3, N, _, rfl, q.later s4⟩
          | _ => cases c1
        | _ => cases c1
    · skip
      refine ⟨_, (pss_cons (ps_set (i := 3) sc_l_operate.nd rfl (Or.inl rfl) (pe_lst (pa_cons (pe_cd T.l_kind G_l_kind (hr.mono (by omega)) pass0 (pa_cons (pv 1) pa_nil)) (pa_cons (pe_cd T.l_kind G_l_kind (hr.mono (by omega)) pass0 (pa_cons (pv 2) pa_nil)) pa_nil))))
      (pss_cons (ps_if (pt_cmpR op_eq (pv 0) pe_str (nomark _)) (pss_one (ps_ret (pe_cd T.l_sum G_l_sum (hr.mono (by omega)) pass0 (pa_cons (pv 1) (pa_cons (pv 2) pa_nil))))) pss_nil)
      (pss_cons (ps_if (pt_cmpR op_eq (pv 0) pe_str (nomark _)) (pss_one (ps_ret (pe_tup (pa_cons (pe_cd T.l_same G_l_same (hr.mono (by omega)) pass0 (pa_cons (pv 1) (pa_cons (pv 2) pa_nil))) (pa_cons pe_non pa_nil))))) pss_nil)
      (pss_cons (ps_if (pt_cmpR op_eq (pv 0) pe_str (nomark _)) (pss_one (ps_ret (pe_tup (pa_cons (pe_not (pe_cd T.l_same G_l_same (hr.mono (by omega)) pass0 (pa_cons (pv 1) (pa_cons (pv 2) pa_nil)))) (pa_cons pe_non pa_nil))))) pss_nil)
      (pss_cons (ps_if (pt_cmpR op_in_seq (pv 0) (pe_tup (pa_cons pe_str (pa_cons pe_str (pa_cons pe_str pa_nil)))) (by rfl)) (pss_cons (ps_if (pt_cmpR (op_neLL hr.units) (pv 3) (pe_lst (pa_cons pe_str (pa_cons pe_str pa_nil))) (nomark _)) (pss_one (ps_ret (pe_tup (pa_cons pe_non (pa_cons pe_str pa_nil))))) pss_nil)
      (pss_cons (ps_if (pt_cmpR op_eq (pv 0) pe_str (nomark _)) (pss_one (ps_ret (pe_cd T.l_bounded G_l_bounded (hr.mono (by omega)) pass0 (pa_cons (pe_op op_sub (pv 1) (pv 2)) pa_nil)))) pss_nil)
      (pss_cons (ps_if (pt_cmpR op_eq (pv 0) pe_str (nomark _)) (pss_one (ps_ret (pe_cd T.l_bounded G_l_bounded (hr.mono (by omega)) pass0 (pa_cons (pe_op op_mulW (pv 1) (pv 2)) pa_nil)))) pss_nil)
      (pss_cons (ps_if (pt_cmpR op_eq (pv 2) pe_int (nomark _)) (pss_one (ps_ret (pe_tup (pa_cons pe_non (pa_cons pe_str pa_nil))))) pss_nil)
      (pss_one (ps_ret (pe_cd T.l_bounded G_l_bounded (hr.mono (by omega)) pass0 (pa_cons (pe_cd T.l_quotient G_l_quotient (hr.mono (by omega)) pass0 (pa_cons (pv 1) (pa_cons (pv 2) pa_nil))) pa_nil)))))))) pss_nil)
      (pss_cons (ps_if (PW.pt (pw_and (pt_cmpR (op_neLL hr.units) (pv 3) (pe_lst (pa_cons pe_str (pa_cons pe_str pa_nil))) (nomark _)) (pw_and1 (pt_cmpR (op_neLL hr.units) (pv 3) (pe_lst (pa_cons pe_str (pa_cons pe_str pa_nil))) (nomark _))))) (pss_one (ps_ret (pe_tup (pa_cons pe_non (pa_cons pe_str pa_nil))))) pss_nil)
      (pss_cons (ps_if (pt_cmpR op_eq (pv 0) pe_str (nomark _)) (pss_one (ps_ret (pe_tup (pa_cons (pe_cmpR op_lt (pv 1) (pv 2) (nomark _)) (pa_cons pe_non pa_nil))))) pss_nil)
      (pss_cons (ps_if (pt_cmpR op_eq (pv 0) pe_str (nomark _)) (pss_one (ps_ret (pe_tup (pa_cons (pe_cmpR op_le (pv 1) (pv 2) (nomark _)) (pa_cons pe_non pa_nil))))) pss_nil)
      (pss_cons (ps_if (pt_cmpR op_eq (pv 0) pe_str (nomark _)) (pss_one (ps_ret (pe_tup (pa_cons (pe_cmpR op_gt (pv 1) (pv 2) (nomark _)) (pa_cons pe_non pa_nil))))) pss_nil)
      (pss_one (ps_ret (pe_tup (pa_cons (pe_cmpR op_ge (pv 1) (pv 2) (nomark _)) (pa_cons pe_non pa_nil)))))))))))))), ?_⟩
      refine ⟨_, rfl, v, x, rfl, rv.rd, _, rfl, u, y, rfl, ru.rd, by show 2 ≤ sizeLine; decide, fun t ht => ?_⟩
      have s1 : Same H (upd H t (.lst [.str (kindN x), .str (kindN y)])) := same_new ht _
      have q1 := upd_same (H := H) (a := t) (o := .lst [.str (kindN x), .str (kindN y)])
      refine ⟨_, rfl, rfl, _, rfl, iteF ⟨_, rfl, rfl, _, rfl, iteT ⟨_, rfl, _, rfl, v, u, x, y, rfl, rv.same s1, (ru.same s1).rd, ox.1, oy.1, by omega, by omega, by omega, fun H2 s2 => ?_⟩⟩⟩
      exact AnsL.good (x := .boo (sameV x y)) q (s1.trans s2) (.boo _)
    · skip
      refine ⟨_, (pss_cons (ps_set (i := 3) sc_l_operate.nd rfl (Or.inl rfl) (pe_lst (pa_cons (pe_cd T.l_kind G_l_kind (hr.mono (by omega)) pass0 (pa_cons (pv 1) pa_nil)) (pa_cons (pe_cd T.l_kind G_l_kind (hr.mono (by omega)) pass0 (pa_cons (pv 2) pa_nil)) pa_nil))))
      (pss_cons (ps_if (pt_cmpR op_eq (pv 0) pe_str (nomark _)) (pss_one (ps_ret (pe_cd T.l_sum G_l_sum (hr.mono (by omega)) pass0 (pa_cons (pv 1) (pa_cons (pv 2) pa_nil))))) pss_nil)
      (pss_cons (ps_if (pt_cmpR op_eq (pv 0) pe_str (nomark _)) (pss_one (ps_ret (pe_tup (pa_cons (pe_cd T.l_same G_l_same (hr.mono (by omega)) pass0 (pa_cons (pv 1) (pa_cons (pv 2) pa_nil))) (pa_cons pe_non pa_nil))))) pss_nil)
      (pss_cons (ps_if (pt_cmpR op_eq (pv 0) pe_str (nomark _)) (pss_one (ps_ret (pe_tup (pa_cons (pe_not (pe_cd T.l_same G_l_same (hr.mono (by omega)) pass0 (pa_cons (pv 1) (pa_cons (pv 2) pa_nil)))) (pa_cons pe_non pa_nil))))) pss_nil)
      (pss_cons (ps_if (pt_cmpR op_in_seq (pv 0) (pe_tup (pa_cons pe_str (pa_cons pe_str (pa_cons pe_str pa_nil)))) (by rfl)) (pss_cons (ps_if (pt_cmpR (op_neLL hr.units) (pv 3) (pe_lst (pa_cons pe_str (pa_cons pe_str pa_nil))) (nomark _)) (pss_one (ps_ret (pe_tup (pa_cons pe_non (pa_cons pe_str pa_nil))))) pss_nil)
      (pss_cons (ps_if (pt_cmpR op_eq (pv 0) pe_str (nomark _)) (pss_one (ps_ret (pe_cd T.l_bounded G_l_bounded (hr.mono (by omega)) pass0 (pa_cons (pe_op op_sub (pv 1) (pv 2)) pa_nil)))) pss_nil)
      (pss_cons (ps_if (pt_cmpR op_eq (pv 0) pe_str (nomark _)) (pss_one (ps_ret (pe_cd T.l_bounded G_l_bounded (hr.mono (by omega)) pass0 (pa_cons (pe_op op_mulW (pv 1) (pv 2)) pa_nil)))) pss_nil)
      (pss_cons (ps_if (pt_cmpR op_eq (pv 2) pe_int (nomark _)) (pss_one (ps_ret (pe_tup (pa_cons pe_non (pa_cons pe_str pa_nil))))) pss_nil)
      (pss_one (ps_ret (pe_cd T.l_bounded G_l_bounded (hr.mono (by omega)) pass0 (pa_cons (pe_cd T.l_quotient G_l_quotient (hr.mono (by omega)) pass0 (pa_cons (pv 1) (pa_cons (pv 2) pa_nil))) pa_nil)))))))) pss_nil)
      (pss_cons (ps_if (PW.pt (pw_and (pt_cmpR (op_neLL hr.units) (pv 3) (pe_lst (pa_cons pe_str (pa_cons pe_str pa_nil))) (nomark _)) (pw_and1 (pt_cmpR (op_neLL hr.units) (pv 3) (pe_lst (pa_cons pe_str (pa_cons pe_str pa_nil))) (nomark _))))) (pss_one (ps_ret (pe_tup (pa_cons pe_non (pa_cons pe_str pa_nil))))) pss_nil)
      (pss_cons (ps_if (pt_cmpR op_eq (pv 0) pe_str (nomark _)) (pss_one (ps_ret (pe_tup (pa_cons (pe_cmpR op_lt (pv 1) (pv 2) (nomark _)) (pa_cons pe_non pa_nil))))) pss_nil)
      (pss_cons (ps_if (pt_cmpR op_eq (pv 0) pe_str (nomark _)) (pss_one (ps_ret (pe_tup (pa_cons (pe_cmpR op_le (pv 1) (pv 2) (nomark _)) (pa_cons pe_non pa_nil))))) pss_nil)
      (pss_cons (ps_if (pt_cmpR op_eq (pv 0) pe_str (nomark _)) (pss_one (ps_ret (pe_tup (pa_cons (pe_cmpR op_gt (pv 1) (pv 2) (nomark _)) (pa_cons pe_non pa_nil))))) pss_nil)
      (pss_one (ps_ret (pe_tup (pa_cons (pe_cmpR op_ge (pv 1) (pv 2) (nomark _)) (pa_cons pe_non pa_nil)))))))))))))), ?_⟩
      refine ⟨_, rfl, v, x, rfl, rv.rd, _, rfl, u, y, rfl, ru.rd, by show 2 ≤ sizeLine; decide, fun t ht => ?_⟩
      have s1 : Same H (upd H t (.lst [.str (kindN x), .str (kindN y)])) := same_new ht _
      have q1 := upd_same (H := H) (a := t) (o := .lst [.str (kindN x), .str (kindN y)])
      refine ⟨_, rfl, rfl, _, rfl, iteF ⟨_, rfl, rfl, _, rfl, iteF ⟨_, rfl, rfl, _, rfl, iteT ⟨_, rfl, _, rfl, v, u, x, y, rfl, rv.same s1, (ru.same s1).rd, ox.1, oy.1, by omega, by omega, by omega, fun H2 s2 => ⟨_, rfl, ?_⟩⟩⟩⟩⟩
      exact AnsL.good (x := .boo (!sameV x y)) q (s1.trans s2) (.boo _)
    · cases c2 : isTT x y with
      | true =>
        refine ⟨_, (pss_cons (ps_set (i := 3) sc_l_operate.nd rfl (Or.inl rfl) (pe_lst (pa_cons (pe_cd T.l_kind G_l_kind (hr.mono (by omega)) pass0 (pa_cons (pv 1) pa_nil)) (pa_cons (pe_cd T.l_kind G_l_kind (hr.mono (by omega)) pass0 (pa_cons (pv 2) pa_nil)) pa_nil))))
      (pss_cons (ps_if (pt_cmpR op_eq (pv 0) pe_str (nomark _)) (pss_one (ps_ret (pe_cd T.l_sum G_l_sum (hr.mono (by omega)) pass0 (pa_cons (pv 1) (pa_cons (pv 2) pa_nil))))) pss_nil)
      (pss_cons (ps_if (pt_cmpR op_eq (pv 0) pe_str (nomark _)) (pss_one (ps_ret (pe_tup (pa_cons (pe_cd T.l_same G_l_same (hr.mono (by omega)) pass0 (pa_cons (pv 1) (pa_cons (pv 2) pa_nil))) (pa_cons pe_non pa_nil))))) pss_nil)
      (pss_cons (ps_if (pt_cmpR op_eq (pv 0) pe_str (nomark _)) (pss_one (ps_ret (pe_tup (pa_cons (pe_not (pe_cd T.l_same G_l_same (hr.mono (by omega)) pass0 (pa_cons (pv 1) (pa_cons (pv 2) pa_nil)))) (pa_cons pe_non pa_nil))))) pss_nil)
      (pss_cons (ps_if (pt_cmpR op_in_seq (pv 0) (pe_tup (pa_cons pe_str (pa_cons pe_str (pa_cons pe_str pa_nil)))) (by rfl)) (pss_cons (ps_if (pt_cmpR (op_neLL hr.units) (pv 3) (pe_lst (pa_cons pe_str (pa_cons pe_str pa_nil))) (nomark _)) (pss_one (ps_ret (pe_tup (pa_cons pe_non (pa_cons pe_str pa_nil))))) pss_nil)
      (pss_cons (ps_if (pt_cmpR op_eq (pv 0) pe_str (nomark _)) (pss_one (ps_ret (pe_cd T.l_bounded G_l_bounded (hr.mono (by omega)) pass0 (pa_cons (pe_op op_sub (pv 1) (pv 2)) pa_nil)))) pss_nil)
      (pss_cons (ps_if (pt_cmpR op_eq (pv 0) pe_str (nomark _)) (pss_one (ps_ret (pe_cd T.l_bounded G_l_bounded (hr.mono (by omega)) pass0 (pa_cons (pe_op op_mulW (pv 1) (pv 2)) pa_nil)))) pss_nil)
      (pss_cons (ps_if (pt_cmpR op_eq (pv 2) pe_int (nomark _)) (pss_one (ps_ret (pe_tup (pa_cons pe_non (pa_cons pe_str pa_nil))))) pss_nil)
      (pss_one (ps_ret (pe_cd T.l_bounded G_l_bounded (hr.mono (by omega)) pass0 (pa_cons (pe_cd T.l_quotient G_l_quotient (hr.mono (by omega)) pass0 (pa_cons (pv 1) (pa_cons (pv 2) pa_nil))) pa_nil)))))))) pss_nil)
      (pss_cons (ps_if (PW.pt (pw_and (pt_cmpR (op_neLL hr.units) (pv 3) (pe_lst (pa_cons pe_str (pa_cons pe_str pa_nil))) (nomark _)) (pw_and1 (pt_cmpR (op_neLL hr.units) (pv 3) (pe_lst (pa_cons pe_str (pa_cons pe_str pa_nil))) (nomark _))))) (pss_one (ps_ret (pe_tup (pa_cons pe_non (pa_cons pe_str pa_nil))))) pss_nil)
      (pss_cons (ps_if (pt_cmpR op_eq (pv 0) pe_str (nomark _)) (pss_one (ps_ret (pe_tup (pa_cons (pe_cmpR op_lt_str (pv 1) (pv 2) (nomark _)) (pa_cons pe_non pa_nil))))) pss_nil)
      (pss_cons (ps_if (pt_cmpR op_eq (pv 0) pe_str (nomark _)) (pss_one (ps_ret (pe_tup (pa_cons (pe_cmpR op_le_str (pv 1) (pv 2) (nomark _)) (pa_cons pe_non pa_nil))))) pss_nil)
      (pss_cons (ps_if (pt_cmpR op_eq (pv 0) pe_str (nomark _)) (pss_one (ps_ret (pe_tup (pa_cons (pe_cmpR op_gt_str (pv 1) (pv 2) (nomark _)) (pa_cons pe_non pa_nil))))) pss_nil)
      (pss_one (ps_ret (pe_tup (pa_cons (pe_cmpR op_ge_str (pv 1) (pv 2) (nomark _)) (pa_cons pe_non pa_nil)))))))))))))), ?_⟩
        refine ⟨_, rfl, v, x, rfl, rv.rd, _, rfl, u, y, rfl, ru.rd, by show 2 ≤ sizeLine; decide, fun t ht => ?_⟩
        have s1 : Same H (upd H t (.lst [.str (kindN x), .str (kindN y)])) := same_new ht _
        have q1 := upd_same (H := H) (a := t) (o := .lst [.str (kindN x), .str (kindN y)])
        refine ⟨_, rfl, rfl, _, rfl, iteF ⟨_, rfl, rfl, _, rfl, iteF ⟨_, rfl, rfl, _, rfl, iteF (inb _ false (by rfl) rfl fun H2 s2 => iteF ?_)⟩⟩⟩
        have q : AnsL N H (mCmp "<" x y) Q := q
        refine kindsLN rfl (s2 _ _ q1) (kinds_ok x y) (by kernel_rfl) fun H3 s3 => ?_
        have s4 := (s1.trans s2).trans s3
        have c1 : isNN x y = false := by cases x <;> cases y <;> first | rfl | (simp [isTT] at c2; done)
        refine iteD (congrArg not ((kk_nn x y).trans c1)) ?_
        refine kindsLN rfl (s3 _ _ (s2 _ _ q1)) (kinds_ok x y) (by kernel_rfl) fun H4 s5 => iteE (congrArg not ((kk_tt x y).trans c2)) ?_
        have s6 := s4.trans s5
        cases x with
        | txt z1 =>
          cases y with
          | txt z2 =>
            cases rv
            cases ru
            exact ⟨_, rfl, rfl, _, rfl, iteT ⟨_, rfl, _, rfl, _, _, rfl, rfl, AnsL.good q s6 (.boo _)⟩⟩
          | _ => cases c2
        | _ => cases c2
      | false =>
        refine ⟨_, (pss_cons (ps_set (i := 3) sc_l_operate.nd rfl (Or.inl rfl) (pe_lst (pa_cons (pe_cd T.l_kind G_l_kind (hr.mono (by omega)) pass0 (pa_cons (pv 1) pa_nil)) (pa_cons (pe_cd T.l_kind G_l_kind (hr.mono (by omega)) pass0 (pa_cons (pv 2) pa_nil)) pa_nil))))
      (pss_cons (ps_if (pt_cmpR op_eq (pv 0) pe_str (nomark _)) (pss_one (ps_ret (pe_cd T.l_sum G_l_sum (hr.mono (by omega)) pass0 (pa_cons (pv 1) (pa_cons (pv 2) pa_nil))))) pss_nil)
      (pss_cons (ps_if (pt_cmpR op_eq (pv 0) pe_str (nomark _)) (pss_one (ps_ret (pe_tup (pa_cons (pe_cd T.l_same G_l_same (hr.mono (by omega)) pass0 (pa_cons (pv 1) (pa_cons (pv 2) pa_nil))) (pa_cons pe_non pa_nil))))) pss_nil)
      (pss_cons (ps_if (pt_cmpR op_eq (pv 0) pe_str (nomark _)) (pss_one (ps_ret (pe_tup (pa_cons (pe_not (pe_cd T.l_same G_l_same (hr.mono (by omega)) pass0 (pa_cons (pv 1) (pa_cons (pv 2) pa_nil)))) (pa_cons pe_non pa_nil))))) pss_nil)
      (pss_cons (ps_if (pt_cmpR op_in_seq (pv 0) (pe_tup (pa_cons pe_str (pa_cons pe_str (pa_cons pe_str pa_nil)))) (by rfl)) (pss_cons (ps_if (pt_cmpR (op_neLL hr.units) (pv 3) (pe_lst (pa_cons pe_str (pa_cons pe_str pa_nil))) (nomark _)) (pss_one (ps_ret (pe_tup (pa_cons pe_non (pa_cons pe_str pa_nil))))) pss_nil)
      (pss_cons (ps_if (pt_cmpR op_eq (pv 0) pe_str (nomark _)) (pss_one (ps_ret (pe_cd T.l_bounded G_l_bounded (hr.mono (by omega)) pass0 (pa_cons (pe_op op_sub (pv 1) (pv 2)) pa_nil)))) pss_nil)
      (pss_cons (ps_if (pt_cmpR op_eq (pv 0) pe_str (nomark _)) (pss_one (ps_ret (pe_cd T.l_bounded G_l_bounded (hr.mono (by omega)) pass0 (pa_cons (pe_op op_mulW (pv 1) (pv 2)) pa_nil)))) pss_nil)
      (pss_cons (ps_if (pt_cmpR op_eq (pv 2) pe_int (nomark _)) (pss_one (ps_ret (pe_tup (pa_cons pe_non (pa_cons pe_str pa_nil))))) pss_nil)
      (pss_one (ps_ret (pe_cd T.l_bounded G_l_bounded (hr.mono (by omega)) pass0 (pa_cons (pe_cd T.l_quotient G_l_quotient (hr.mono (by omega)) pass0 (pa_cons (pv 1) (pa_cons (pv 2) pa_nil))) pa_nil)))))))) pss_nil)
      (pss_cons (ps_if (PW.pt (pw_and (pt_cmpR (op_neLL hr.units) (pv 3) (pe_lst (pa_cons pe_str (pa_cons pe_str pa_nil))) (nomark _)) (pw_and1 (pt_cmpR (op_neLL hr.units) (pv 3) (pe_lst (pa_cons pe_str (pa_cons pe_str pa_nil))) (nomark _))))) (pss_one (ps_ret (pe_tup (pa_cons pe_non (pa_cons pe_str pa_nil))))) pss_nil)
      (pss_cons (ps_if (pt_cmpR op_eq (pv 0) pe_str (nomark _)) (pss_one (ps_ret (pe_tup (pa_cons (pe_cmpR op_lt (pv 1) (pv 2) (nomark _)) (pa_cons pe_non pa_nil))))) pss_nil)
      (pss_cons (ps_if (pt_cmpR op_eq (pv 0) pe_str (nomark _)) (pss_one (ps_ret (pe_tup (pa_cons (pe_cmpR op_le (pv 1) (pv 2) (nomark _)) (pa_cons pe_non pa_nil))))) pss_nil)
      (pss_cons (ps_if (pt_cmpR op_eq (pv 0) pe_str (nomark _)) (pss_one (ps_ret (pe_tup (pa_cons (pe_cmpR op_gt (pv 1) (pv 2) (nomark _)) (pa_cons pe_non pa_nil))))) pss_nil)
      (pss_one (ps_ret (pe_tup (pa_cons (pe_cmpR op_ge (pv 1) (pv 2) (nomark _)) (pa_cons pe_non pa_nil)))))))))))))), ?_⟩
        refine ⟨_, rfl, v, x, rfl, rv.rd, _, rfl, u, y, rfl, ru.rd, by show 2 ≤ sizeLine; decide, fun t ht => ?_⟩
        have s1 : Same H (upd H t (.lst [.str (kindN x), .str (kindN y)])) := same_new ht _
        have q1 := upd_same (H := H) (a := t) (o := .lst [.str (kindN x), .str (kindN y)])
        refine ⟨_, rfl, rfl, _, rfl, iteF ⟨_, rfl, rfl, _, rfl, iteF ⟨_, rfl, rfl, _, rfl, iteF (inb _ false (by rfl) rfl fun H2 s2 => iteF ?_)⟩⟩⟩
        have q : AnsL N H (mCmp "<" x y) Q := q
        refine kindsLN rfl (s2 _ _ q1) (kinds_ok x y) (by kernel_rfl) fun H3 s3 => ?_
        have s4 := (s1.trans s2).trans s3
        cases c1 : isNN x y with
        | true =>
          refine iteE (congrArg not ((kk_nn x y).trans c1)) (iteF ?_)
          cases x with
          | num i =>
            cases y with
            | num j =>
              cases rv
              cases ru
              exact ⟨_, rfl, rfl, _, rfl, iteT ⟨_, rfl, _, rfl, _, _, rfl, rfl, AnsL.good q s4 (.boo _)⟩⟩
            | _ => cases c1
          | _ => cases c1
        | false =>
          refine iteD (congrArg not ((kk_nn x y).trans c1)) ?_
          refine kindsLN rfl (s3 _ _ (s2 _ _ q1)) (kinds_ok x y) (by kernel_rfl) fun H4 s5 => iteD (congrArg not ((kk_tt x y).trans c2)) ?_
          have em : mCmp "<" x y = .error "not to be compared" := by
            cases x <;> cases y <;> first | rfl | (simp [isNN] at c1; done) | (simp [isTT] at c2; done)
          rw [em] at q
          exact q.bad (s4.trans s5)
    · cases c2 : isTT x y with
      | true =>
        refine ⟨_, (pss_cons (ps_set (i := 3) sc_l_operate.nd rfl (Or.inl rfl) (pe_lst (pa_cons (pe_cd T.l_kind G_l_kind (hr.mono (by omega)) pass0 (pa_cons (pv 1) pa_nil)) (pa_cons (pe_cd T.l_kind G_l_kind (hr.mono (by omega)) pass0 (pa_cons (pv 2) pa_nil)) pa_nil))))
      (pss_cons (ps_if (pt_cmpR op_eq (pv 0) pe_str (nomark _)) (pss_one (ps_ret (pe_cd T.l_sum G_l_sum (hr.mono (by omega)) pass0 (pa_cons (pv 1) (pa_cons (pv 2) pa_nil))))) pss_nil)
      (pss_cons (ps_if (pt_cmpR op_eq (pv 0) pe_str (nomark _)) (pss_one (ps_ret (pe_tup (pa_cons (pe_cd T.l_same G_l_same (hr.mono (by omega)) pass0 (pa_cons (pv 1) (pa_cons (pv 2) pa_nil))) (pa_cons pe_non pa_nil))))) pss_nil)
      (pss_cons (ps_if (pt_cmpR op_eq (pv 0) pe_str (nomark _)) (pss_one (ps_ret (pe_tup (pa_cons (pe_not (pe_cd T.l_same G_l_same (hr.mono (by omega)) pass0 (pa_cons (pv 1) (pa_cons (pv 2) pa_nil)))) (pa_cons pe_non pa_nil))))) pss_nil)
      (pss_cons (ps_if (pt_cmpR op_in_seq (pv 0) (pe_tup (pa_cons pe_str (pa_cons pe_str (pa_cons pe_str pa_nil)))) (by rfl)) (pss_cons (ps_if (pt_cmpR (op_neLL hr.units) (pv 3) (pe_lst (pa_cons pe_str (pa_cons pe_str pa_nil))) (nomark _)) (pss_one (ps_ret (pe_tup (pa_cons pe_non (pa_cons pe_str pa_nil))))) pss_nil)
      (pss_cons (ps_if (pt_cmpR op_eq (pv 0) pe_str (nomark _)) (pss_one (ps_ret (pe_cd T.l_bounded G_l_bounded (hr.mono (by omega)) pass0 (pa_cons (pe_op op_sub (pv 1) (pv 2)) pa_nil)))) pss_nil)
      (pss_cons (ps_if (pt_cmpR op_eq (pv 0) pe_str (nomark _)) (pss_one (ps_ret (pe_cd T.l_bounded G_l_bounded (hr.mono (by omega)) pass0 (pa_cons (pe_op op_mulW (pv 1) (pv 2)) pa_nil)))) pss_nil)
      (pss_cons (ps_if (pt_cmpR op_eq (pv 2) pe_int (nomark _)) (pss_one (ps_ret (pe_tup (pa_cons pe_non (pa_cons pe_str pa_nil))))) pss_nil)
      (pss_one (ps_ret (pe_cd T.l_bounded G_l_bounded (hr.mono (by omega)) pass0 (pa_cons (pe_cd T.l_quotient G_l_quotient (hr.mono (by omega)) pass0 (pa_cons (pv 1) (pa_cons (pv 2) pa_nil))) pa_nil)))))))) pss_nil)
      (pss_cons (ps_if (PW.pt (pw_and (pt_cmpR (op_neLL hr.units) (pv 3) (pe_lst (pa_cons pe_str (pa_cons pe_str pa_nil))) (nomark _)) (pw_and1 (pt_cmpR (op_neLL hr.units) (pv 3) (pe_lst (pa_cons pe_str (pa_cons pe_str pa_nil))) (nomark _))))) (pss_one (ps_ret (pe_tup (pa_cons pe_non (pa_cons pe_str pa_nil))))) pss_nil)
      (pss_cons (ps_if (pt_cmpR op_eq (pv 0) pe_str (nomark _)) (pss_one (ps_ret (pe_tup (pa_cons (pe_cmpR op_lt_str (pv 1) (pv 2) (nomark _)) (pa_cons pe_non pa_nil))))) pss_nil)
      (pss_cons (ps_if (pt_cmpR op_eq (pv 0) pe_str (nomark _)) (pss_one (ps_ret (pe_tup (pa_cons (pe_cmpR op_le_str (pv 1) (pv 2) (nomark _)) (pa_cons pe_non pa_nil))))) pss_nil)
      (pss_cons (ps_if (pt_cmpR op_eq (pv 0) pe_str (nomark _)) (pss_one (ps_ret (pe_tup (pa_cons (pe_cmpR op_gt_str (pv 1) (pv 2) (nomark _)) (pa_cons pe_non pa_nil))))) pss_nil)
      (pss_one (ps_ret (pe_tup (pa_cons (pe_cmpR op_ge_str (pv 1) (pv 2) (nomark _)) (pa_cons pe_non pa_nil)))))))))))))), ?_⟩
        refine ⟨_, rfl, v, x, rfl, rv.rd, _, rfl, u, y, rfl, ru.rd, by show 2 ≤ sizeLine; decide, fun t ht => ?_⟩
        have s1 : Same H (upd H t (.lst [.str (kindN x), .str (kindN y)])) := same_new ht _
        have q1 := upd_same (H := H) (a := t) (o := .lst [.str (kindN x), .str (kindN y)])
        refine ⟨_, rfl, rfl, _, rfl, iteF ⟨_, rfl, rfl, _, rfl, iteF ⟨_, rfl, rfl, _, rfl, iteF (inb _ false (by rfl) rfl fun H2 s2 => iteF ?_)⟩⟩⟩
        have q : AnsL N H (mCmp "<=" x y) Q := q
        refine kindsLN rfl (s2 _ _ q1) (kinds_ok x y) (by kernel_rfl) fun H3 s3 => ?_
        have s4 := (s1.trans s2).trans s3
        have c1 : isNN x y = false := by cases x <;> cases y <;> first | rfl | (simp [isTT] at c2; done)
        refine iteD (congrArg not ((kk_nn x y).trans c1)) ?_
        refine kindsLN rfl (s3 _ _ (s2 _ _ q1)) (kinds_ok x y) (by kernel_rfl) fun H4 s5 => iteE (congrArg not ((kk_tt x y).trans c2)) ?_
        have s6 := s4.trans s5
        cases x with
        | txt z1 =>
          cases y with
          | txt z2 =>
            cases rv
            cases ru
            refine ⟨_, rfl, rfl, _, rfl, iteF ⟨_, rfl, rfl, _, rfl, iteT ⟨_, rfl, _, rfl, _, _, rfl, rfl, ?_⟩⟩⟩
            rw [← le_ge]
            exact AnsL.good q s6 (.boo _)
          | _ => cases c2
        | _ => cases c2
      | false =>
        refine ⟨_, (pss_cons (ps_set (i := 3) sc_l_operate.nd rfl (Or.inl rfl) (pe_lst (pa_cons (pe_cd T.l_kind G_l_kind (hr.mono (by omega)) pass0 (pa_cons (pv 1) pa_nil)) (pa_cons (pe_cd T.l_kind G_l_kind (hr.mono (by omega)) pass0 (pa_cons (pv 2) pa_nil)) pa_nil))))
      (pss_cons (ps_if (pt_cmpR op_eq (pv 0) pe_str (nomark _)) (pss_one (ps_ret (pe_cd T.l_sum G_l_sum (hr.mono (by omega)) pass0 (pa_cons (pv 1) (pa_cons (pv 2) pa_nil))))) pss_nil)
      (pss_cons (ps_if (pt_cmpR op_eq (pv 0) pe_str (nomark _)) (pss_one (ps_ret (pe_tup (pa_cons (pe_cd T.l_same G_l_same (hr.mono (by omega)) pass0 (pa_cons (pv 1) (pa_cons (pv 2) pa_nil))) (pa_cons pe_non pa_nil))))) pss_nil)
      (pss_cons (ps_if (pt_cmpR op_eq (pv 0) pe_str (nomark _)) (pss_one (ps_ret (pe_tup (pa_cons (pe_not (pe_cd T.l_same G_l_same (hr.mono (by omega)) pass0 (pa_cons (pv 1) (pa_cons (pv 2) pa_nil)))) (pa_cons pe_non pa_nil))))) pss_nil)
      (pss_cons (ps_if (pt_cmpR op_in_seq (pv 0) (pe_tup (pa_cons pe_str (pa_cons pe_str (pa_cons pe_str pa_nil)))) (by rfl)) (pss_cons (ps_if (pt_cmpR (op_neLL hr.units) (pv 3) (pe_lst (pa_cons pe_str (pa_cons pe_str pa_nil))) (nomark _)) (pss_one (ps_ret (pe_tup (pa_cons pe_non (pa_cons pe_str pa_nil))))) pss_nil)
      (pss_cons (ps_if (pt_cmpR op_eq (pv 0) pe_str (nomark _)) (pss_one (ps_ret (pe_cd T.l_bounded G_l_bounded (hr.mono (by omega)) pass0 (pa_cons (pe_op op_sub (pv 1) (pv 2)) pa_nil)))) pss_nil)
      (pss_cons (ps_if (pt_cmpR op_eq (pv 0) pe_str (nomark _)) (pss_one (ps_ret (pe_cd T.l_bounded G_l_bounded (hr.mono (by omega)) pass0 (pa_cons (pe_op op_mulW (pv 1) (pv 2)) pa_nil)))) pss_nil)
      (pss_cons (ps_if (pt_cmpR op_eq (pv 2) pe_int (nomark _)) (pss_one (ps_ret (pe_tup (pa_cons pe_non (pa_cons pe_str pa_nil))))) pss_nil)
      (pss_one (ps_ret (pe_cd T.l_bounded G_l_bounded (hr.mono (by omega)) pass0 (pa_cons (pe_cd T.l_quotient G_l_quotient (hr.mono (by omega)) pass0 (pa_cons (pv 1) (pa_cons (pv 2) pa_nil))) pa_nil)))))))) pss_nil)
      (pss_cons (ps_if (PW.pt (pw_and (pt_cmpR (op_neLL hr.units) (pv 3) (pe_lst (pa_cons pe_str (pa_cons pe_str pa_nil))) (nomark _)) (pw_and1 (pt_cmpR (op_neLL hr.units) (pv 3) (pe_lst (pa_cons pe_str (pa_cons pe_str pa_nil))) (nomark _))))) (pss_one (ps_ret (pe_tup (pa_cons pe_non (pa_cons pe_str pa_nil))))) pss_nil)
      (pss_cons (ps_if (pt_cmpR op_eq (pv 0) pe_str (nomark _)) (pss_one (ps_ret (pe_tup (pa_cons (pe_cmpR op_lt (pv 1) (pv 2) (nomark _)) (pa_cons pe_non pa_nil))))) pss_nil)
      (pss_cons (ps_if (pt_cmpR op_eq (pv 0) pe_str (nomark _)) (pss_one (ps_ret (pe_tup (pa_cons (pe_cmpR op_le (pv 1) (pv 2) (nomark _)) (pa_cons pe_non pa_nil))))) pss_nil)
      (pss_cons (ps_if (pt_cmpR op_eq (pv 0) pe_str (nomark _)) (pss_one (ps_ret (pe_tup (pa_cons (pe_cmpR op_gt (pv 1) (pv 2) (nomark _)) (pa_cons pe_non pa_nil))))) pss_nil)
      (pss_one (ps_ret (pe_tup (pa_cons (pe_cmpR op_ge (pv 1) (pv 2) (nomark _)) (pa_cons pe_non pa_nil)))))))))))))), ?_⟩
        refine ⟨_, rfl, v, x, rfl, rv.rd, _, rfl, u, y, rfl, ru.rd, by show 2 ≤ sizeLine; decide, fun t ht => ?_⟩
        have s1 : Same H (upd H t (.lst [.str (kindN x), .str (kindN y)])) := same_new ht _
        have q1 := upd_same (H := H) (a := t) (o := .lst [.str (kindN x), .str (kindN y)])
        refine ⟨_, rfl, rfl, _, rfl, iteF ⟨_, rfl, rfl, _, rfl, iteF ⟨_, rfl, rfl, _, rfl, iteF (inb _ false (by rfl) rfl fun H2 s2 => iteF ?_)⟩⟩⟩
        have q : AnsL N H (mCmp "<=" x y) Q := q
        refine kindsLN rfl (s2 _ _ q1) (kinds_ok x y) (by kernel_rfl) fun H3 s3 => ?_
        have s4 := (s1.trans s2).trans s3
        cases c1 : isNN x y with
        | true =>
          refine iteE (congrArg not ((kk_nn x y).trans c1)) (iteF ?_)
          cases x with
          | num i =>
            cases y with
            | num j =>
              cases rv
              cases ru
              exact ⟨_, rfl, rfl, _, rfl, iteF ⟨_, rfl, rfl, _, rfl, iteT ⟨_, rfl, _, rfl, _, _, rfl, rfl, AnsL.good q s4 (.boo _)⟩⟩⟩
            | _ => cases c1
          | _ => cases c1
        | false =>
          refine iteD (congrArg not ((kk_nn x y).trans c1)) ?_
          refine kindsLN rfl (s3 _ _ (s2 _ _ q1)) (kinds_ok x y) (by kernel_rfl) fun H4 s5 => iteD (congrArg not ((kk_tt x y).trans c2)) ?_
          have em : mCmp "<=" x y = .error "not to be compared" := by
            cases x <;> cases y <;> first | rfl | (simp [isNN] at c1; done) | (simp [isTT] at c2; done)
          rw [em] at q
          exact q.bad (s4.trans s5)
    · cases c2 : isTT x y with
      | true =>
        refine ⟨_, (pss_cons (ps_set (i := 3) sc_l_operate.nd rfl (Or.inl rfl) (pe_lst (pa_cons (pe_cd T.l_kind G_l_kind (hr.mono (by omega)) pass0 (pa_cons (pv 1) pa_nil)) (pa_cons (pe_cd T.l_kind G_l_kind (hr.mono (by omega)) pass0 (pa_cons (pv 2) pa_nil)) pa_nil))))
      (pss_cons (ps_if (pt_cmpR op_eq (pv 0) pe_str (nomark _)) (pss_one (ps_ret (pe_cd T.l_sum G_l_sum (hr.mono (by omega)) pass0 (pa_cons (pv 1) (pa_cons (pv 2) pa_nil))))) pss_nil)
      (pss_cons (ps_if (pt_cmpR op_eq (pv 0) pe_str (nomark _)) (pss_one (ps_ret (pe_tup (pa_cons (pe_cd T.l_same G_l_same (hr.mono (by omega)) pass0 (pa_cons (pv 1) (pa_cons (pv 2) pa_nil))) (pa_cons pe_non pa_nil))))) pss_nil)
      (pss_cons (ps_if (pt_cmpR op_eq (pv 0) pe_str (nomark _)) (pss_one (ps_ret (pe_tup (pa_cons (pe_not (pe_cd T.l_same G_l_same (hr.mono (by omega)) pass0 (pa_cons (pv 1) (pa_cons (pv 2) pa_nil)))) (pa_cons pe_non pa_nil))))) pss_nil)
      (pss_cons (ps_if (pt_cmpR op_in_seq (pv 0) (pe_tup (pa_cons pe_str (pa_cons pe_str (pa_cons pe_str pa_nil)))) (by rfl)) (pss_cons (ps_if (pt_cmpR (op_neLL hr.units) (pv 3) (pe_lst (pa_cons pe_str (pa_cons pe_str pa_nil))) (nomark _)) (pss_one (ps_ret (pe_tup (pa_cons pe_non (pa_cons pe_str pa_nil))))) pss_nil)
      (pss_cons (ps_if (pt_cmpR op_eq (pv 0) pe_str (nomark _)) (pss_one (ps_ret (pe_cd T.l_bounded G_l_bounded (hr.mono (by omega)) pass0 (pa_cons (pe_op op_sub (pv 1) (pv 2)) pa_nil)))) pss_nil)
      (pss_cons (ps_if (pt_cmpR op_eq (pv 0) pe_str (nomark _)) (pss_one (ps_ret (pe_cd T.l_bounded G_l_bounded (hr.mono (by omega)) pass0 (pa_cons (pe_op op_mulW (pv 1) (pv 2)) pa_nil)))) pss_nil)
      (pss_cons (ps_if (pt_cmpR op_eq (pv 2) pe_int (nomark _)) (pss_one (ps_ret (pe_tup (pa_cons pe_non (pa_cons pe_str pa_nil))))) pss_nil)
      (pss_one (ps_ret (pe_cd T.l_bounded G_l_bounded (hr.mono (by omega)) pass0 (pa_cons (pe_cd T.l_quotient G_l_quotient (hr.mono (by omega)) pass0 (pa_cons (pv 1) (pa_cons (pv 2) pa_nil))) pa_nil)))))))) pss_nil)
      (pss_cons (ps_if (PW.pt (pw_and (pt_cmpR (op_neLL hr.units) (pv 3) (pe_lst (pa_cons pe_str (pa_cons pe_str pa_nil))) (nomark _)) (pw_and1 (pt_cmpR (op_neLL hr.units) (pv 3) (pe_lst (pa_cons pe_str (pa_cons pe_str pa_nil))) (nomark _))))) (pss_one (ps_ret (pe_tup (pa_cons pe_non (pa_cons pe_str pa_nil))))) pss_nil)
      (pss_cons (ps_if (pt_cmpR op_eq (pv 0) pe_str (nomark _)) (pss_one (ps_ret (pe_tup (pa_cons (pe_cmpR op_lt_str (pv 1) (pv 2) (nomark _)) (pa_cons pe_non pa_nil))))) pss_nil)
      (pss_cons (ps_if (pt_cmpR op_eq (pv 0) pe_str (nomark _)) (pss_one (ps_ret (pe_tup (pa_cons (pe_cmpR op_le_str (pv 1) (pv 2) (nomark _)) (pa_cons pe_non pa_nil))))) pss_nil)
      (pss_cons (ps_if (pt_cmpR op_eq (pv 0) pe_str (nomark _)) (pss_one (ps_ret (pe_tup (pa_cons (pe_cmpR op_gt_str (pv 1) (pv 2) (nomark _)) (pa_cons pe_non pa_nil))))) pss_nil)
      (pss_one (ps_ret (pe_tup (pa_cons (pe_cmpR op_ge_str (pv 1) (pv 2) (nomark _)) (pa_cons pe_non pa_nil)))))))))))))), ?_⟩
        refine ⟨_, rfl, v, x, rfl, rv.rd, _, rfl, u, y, rfl, ru.rd, by show 2 ≤ sizeLine; decide, fun t ht => ?_⟩
        have s1 : Same H (upd H t (.lst [.str (kindN x), .str (kindN y)])) := same_new ht _
        have q1 := upd_same (H := H) (a := t) (o := .lst [.str (kindN x), .str (kindN y)])
        refine ⟨_, rfl, rfl, _, rfl, iteF ⟨_, rfl, rfl, _, rfl, iteF ⟨_, rfl, rfl, _, rfl, iteF (inb _ false (by rfl) rfl fun H2 s2 => iteF ?_)⟩⟩⟩
        have q : AnsL N H (mCmp ">" x y) Q := q
        refine kindsLN rfl (s2 _ _ q1) (kinds_ok x y) (by kernel_rfl) fun H3 s3 => ?_
        have s4 := (s1.trans s2).trans s3
        have c1 : isNN x y = false := by cases x <;> cases y <;> first | rfl | (simp [isTT] at c2; done)
        refine iteD (congrArg not ((kk_nn x y).trans c1)) ?_
        refine kindsLN rfl (s3 _ _ (s2 _ _ q1)) (kinds_ok x y) (by kernel_rfl) fun H4 s5 => iteE (congrArg not ((kk_tt x y).trans c2)) ?_
        have s6 := s4.trans s5
        cases x with
        | txt z1 =>
          cases y with
          | txt z2 =>
            cases rv
            cases ru
            exact ⟨_, rfl, rfl, _, rfl, iteF ⟨_, rfl, rfl, _, rfl, iteF ⟨_, rfl, rfl, _, rfl, iteT ⟨_, rfl, _, rfl, _, _, rfl, rfl, AnsL.good q s6 (.boo _)⟩⟩⟩⟩
          | _ => cases c2
        | _ => cases c2
      | false =>
        refine ⟨_, (pss_cons (ps_set (i := 3) sc_l_operate.nd rfl (Or.inl rfl) (pe_lst (pa_cons (pe_cd T.l_kind G_l_kind (hr.mono (by omega)) pass0 (pa_cons (pv 1) pa_nil)) (pa_cons (pe_cd T.l_kind G_l_kind (hr.mono (by omega)) pass0 (pa_cons (pv 2) pa_nil)) pa_nil))))
      (pss_cons (ps_if (pt_cmpR op_eq (pv 0) pe_str (nomark _)) (pss_one (ps_ret (pe_cd T.l_sum G_l_sum (hr.mono (by omega)) pass0 (pa_cons (pv 1) (pa_cons (pv 2) pa_nil))))) pss_nil)
      (pss_cons (ps_if (pt_cmpR op_eq (pv 0) pe_str (nomark _)) (pss_one (ps_ret (pe_tup (pa_cons (pe_cd T.l_same G_l_same (hr.mono (by omega)) pass0 (pa_cons (pv 1) (pa_cons (pv 2) pa_nil))) (pa_cons pe_non pa_nil))))) pss_nil)
      (pss_cons (ps_if (pt_cmpR op_eq (pv 0) pe_str (nomark _)) (pss_one (ps_ret (pe_tup (pa_cons (pe_not (pe_cd T.l_same G_l_same (hr.mono (by omega)) pass0 (pa_cons (pv 1) (pa_cons (pv 2) pa_nil)))) (pa_cons pe_non pa_nil))))) pss_nil)
      (pss_cons (ps_if (pt_cmpR op_in_seq (pv 0) (pe_tup (pa_cons pe_str (pa_cons pe_str (pa_cons pe_str pa_nil)))) (by rfl)) (pss_cons (ps_if (pt_cmpR (op_neLL hr.units) (pv 3) (pe_lst (pa_cons pe_str (pa_cons pe_str pa_nil))) (nomark _)) (pss_one (ps_ret (pe_tup (pa_cons pe_non (pa_cons pe_str pa_nil))))) pss_nil)
      (pss_cons (ps_if (pt_cmpR op_eq (pv 0) pe_str (nomark _)) (pss_one (ps_ret (pe_cd T.l_bounded G_l_bounded (hr.mono (by omega)) pass0 (pa_cons (pe_op op_sub (pv 1) (pv 2)) pa_nil)))) pss_nil)
      (pss_cons (ps_if (pt_cmpR op_eq (pv 0) pe_str (nomark _)) (pss_one (ps_ret (pe_cd T.l_bounded G_l_bounded (hr.mono (by omega)) pass0 (pa_cons (pe_op op_mulW (pv 1) (pv 2)) pa_nil)))) pss_nil)
      (pss_cons (ps_if (pt_cmpR op_eq (pv 2) pe_int (nomark _)) (pss_one (ps_ret (pe_tup (pa_cons pe_non (pa_cons pe_str pa_nil))))) pss_nil)
      (pss_one (ps_ret (pe_cd T.l_bounded G_l_bounded (hr.mono (by omega)) pass0 (pa_cons (pe_cd T.l_quotient G_l_quotient (hr.mono (by omega)) pass0 (pa_cons (pv 1) (pa_cons (pv 2) pa_nil))) pa_nil)))))))) pss_nil)
      (pss_cons (ps_if (PW.pt (pw_and (pt_cmpR (op_neLL hr.units) (pv 3) (pe_lst (pa_cons pe_str (pa_cons pe_str pa_nil))) (nomark _)) (pw_and1 (pt_cmpR (op_neLL hr.units) (pv 3) (pe_lst (pa_cons pe_str (pa_cons pe_str pa_nil))) (nomark _))))) (pss_one (ps_ret (pe_tup (pa_cons pe_non (pa_cons pe_str pa_nil))))) pss_nil)
      (pss_cons (ps_if (pt_cmpR op_eq (pv 0) pe_str (nomark _)) (pss_one (ps_ret (pe_tup (pa_cons (pe_cmpR op_lt (pv 1) (pv 2) (nomark _)) (pa_cons pe_non pa_nil))))) pss_nil)
      (pss_cons (ps_if (pt_cmpR op_eq (pv 0) pe_str (nomark _)) (pss_one (ps_ret (pe_tup (pa_cons (pe_cmpR op_le (pv 1) (pv 2) (nomark _)) (pa_cons pe_non pa_nil))))) pss_nil)
      (pss_cons (ps_if (pt_cmpR op_eq (pv 0) pe_str (nomark _)) (pss_one (ps_ret (pe_tup (pa_cons (pe_cmpR op_gt (pv 1) (pv 2) (nomark _)) (pa_cons pe_non pa_nil))))) pss_nil)
      (pss_one (ps_ret (pe_tup (pa_cons (pe_cmpR op_ge (pv 1) (pv 2) (nomark _)) (pa_cons pe_non pa_nil)))))))))))))), ?_⟩
        refine ⟨_, rfl, v, x, rfl, rv.rd, _, rfl, u, y, rfl, ru.rd, by show 2 ≤ sizeLine; decide, fun t ht => ?_⟩
        have s1 : Same H (upd H t (.lst [.str (kindN x), .str (kindN y)])) := same_new ht _
        have q1 := upd_same (H := H) (a := t) (o := .lst [.str (kindN x), .str (kindN y)])
        refine ⟨_, rfl, rfl, _, rfl, iteF ⟨_, rfl, rfl, _, rfl, iteF ⟨_, rfl, rfl, _, rfl, iteF (inb _ false (by rfl) rfl fun H2 s2 => iteF ?_)⟩⟩⟩
        have q : AnsL N H (mCmp ">" x y) Q := q
        refine kindsLN rfl (s2 _ _ q1) (kinds_ok x y) (by kernel_rfl) fun H3 s3 => ?_
        have s4 := (s1.trans s2).trans s3
        cases c1 : isNN x y with
        | true =>
          refine iteE (congrArg not ((kk_nn x y).trans c1)) (iteF ?_)
          cases x with
          | num i =>
            cases y with
            | num j =>
              cases rv
              cases ru
              exact ⟨_, rfl, rfl, _, rfl, iteF ⟨_, rfl, rfl, _, rfl, iteF ⟨_, rfl, rfl, _, rfl, iteT ⟨_, rfl, _, rfl, _, _, rfl, rfl, AnsL.good q s4 (.boo _)⟩⟩⟩⟩
            | _ => cases c1
          | _ => cases c1
        | false =>
          refine iteD (congrArg not ((kk_nn x y).trans c1)) ?_
          refine kindsLN rfl (s3 _ _ (s2 _ _ q1)) (kinds_ok x y) (by kernel_rfl) fun H4 s5 => iteD (congrArg not ((kk_tt x y).trans c2)) ?_
          have em : mCmp ">" x y = .error "not to be compared" := by
            cases x <;> cases y <;> first | rfl | (simp [isNN] at c1; done) | (simp [isTT] at c2; done)
          rw [em] at q
          exact q.bad (s4.trans s5)
    · cases c2 : isTT x y with
      | true =>
        refine ⟨_, (pss_cons (ps_set (i := 3) sc_l_operate.nd rfl (Or.inl rfl) (pe_lst (pa_cons (pe_cd T.l_kind G_l_kind (hr.mono (by omega)) pass0 (pa_cons (pv 1) pa_nil)) (pa_cons (pe_cd T.l_kind G_l_kind (hr.mono (by omega)) pass0 (pa_cons (pv 2) pa_nil)) pa_nil))))
      (pss_cons (ps_if (pt_cmpR op_eq (pv 0) pe_str (nomark _)) (pss_one (ps_ret (pe_cd T.l_sum G_l_sum (hr.mono (by omega)) pass0 (pa_cons (pv 1) (pa_cons (pv 2) pa_nil))))) pss_nil)
      (pss_cons (ps_if (pt_cmpR op_eq (pv 0) pe_str (nomark _)) (pss_one (ps_ret (pe_tup (pa_cons (pe_cd T.l_same G_l_same (hr.mono (by omega)) pass0 (pa_cons (pv 1) (pa_cons (pv 2) pa_nil))) (pa_cons pe_non pa_nil))))) pss_nil)
      (pss_cons (ps_if (pt_cmpR op_eq (pv 0) pe_str (nomark _)) (pss_one (ps_ret (pe_tup (pa_cons (pe_not (pe_cd T.l_same G_l_same (hr.mono (by omega)) pass0 (pa_cons (pv 1) (pa_cons (pv 2) pa_nil)))) (pa_cons pe_non pa_nil))))) pss_nil)
      (pss_cons (ps_if (pt_cmpR op_in_seq (pv 0) (pe_tup (pa_cons pe_str (pa_cons pe_str (pa_cons pe_str pa_nil)))) (by rfl)) (pss_cons (ps_if (pt_cmpR (op_neLL hr.units) (pv 3) (pe_lst (pa_cons pe_str (pa_cons pe_str pa_nil))) (nomark _)) (pss_one (ps_ret (pe_tup (pa_cons pe_non (pa_cons pe_str pa_nil))))) pss_nil)
      (pss_cons (ps_if (pt_cmpR op_eq (pv 0) pe_str (nomark _)) (pss_one (ps_ret (pe_cd T.l_bounded G_l_bounded (hr.mono (by omega)) pass0 (pa_cons (pe_op op_sub (pv 1) (pv 2)) pa_nil)))) pss_nil)
      (pss_cons (ps_if (pt_cmpR op_eq (pv 0) pe_str (nomark _)) (pss_one (ps_ret (pe_cd T.l_bounded G_l_bounded (hr.mono (by omega)) pass0 (pa_cons (pe_op op_mulW (pv 1) (pv 2)) pa_nil)))) pss_nil)
      (pss_cons (ps_if (pt_cmpR op_eq (pv 2) pe_int (nomark _)) (pss_one (ps_ret (pe_tup (pa_cons pe_non (pa_cons pe_str pa_nil))))) pss_nil)
      (pss_one (ps_ret (pe_cd T.l_bounded G_l_bounded (hr.mono (by omega)) pass0 (pa_cons (pe_cd T.l_quotient G_l_quotient (hr.mono (by omega)) pass0 (pa_cons (pv 1) (pa_cons (pv 2) pa_nil))) pa_nil)))))))) pss_nil)
      (pss_cons (ps_if (PW.pt (pw_and (pt_cmpR (op_neLL hr.units) (pv 3) (pe_lst (pa_cons pe_str (pa_cons pe_str pa_nil))) (nomark _)) (pw_and1 (pt_cmpR (op_neLL hr.units) (pv 3) (pe_lst (pa_cons pe_str (pa_cons pe_str pa_nil))) (nomark _))))) (pss_one (ps_ret (pe_tup (pa_cons pe_non (pa_cons pe_str pa_nil))))) pss_nil)
      (pss_cons (ps_if (pt_cmpR op_eq (pv 0) pe_str (nomark _)) (pss_one (ps_ret (pe_tup (pa_cons (pe_cmpR op_lt_str (pv 1) (pv 2) (nomark _)) (pa_cons pe_non pa_nil))))) pss_nil)
      (pss_cons (ps_if (pt_cmpR op_eq (pv 0) pe_str (nomark _)) (pss_one (ps_ret (pe_tup (pa_cons (pe_cmpR op_le_str (pv 1) (pv 2) (nomark _)) (pa_cons pe_non pa_nil))))) pss_nil)
      (pss_cons (ps_if (pt_cmpR op_eq (pv 0) pe_str (nomark _)) (pss_one (ps_ret (pe_tup (pa_cons (pe_cmpR op_gt_str (pv 1) (pv 2) (nomark _)) (pa_cons pe_non pa_nil))))) pss_nil)
      (pss_one (ps_ret (pe_tup (pa_cons (pe_cmpR op_ge_str (pv 1) (pv 2) (nomark _)) (pa_cons pe_non pa_nil)))))))))))))), ?_⟩
        refine ⟨_, rfl, v, x, rfl, rv.rd, _, rfl, u, y, rfl, ru.rd, by show 2 ≤ sizeLine; decide, fun t ht => ?_⟩
        have s1 : Same H (upd H t (.lst [.str (kindN x), .str (kindN y)])) := same_new ht _
        have q1 := upd_same (H := H) (a := t) (o := .lst [.str (kindN x), .str (kindN y)])
        refine ⟨_, rfl, rfl, _, rfl, iteF ⟨_, rfl, rfl, _, rfl, iteF ⟨_, rfl, rfl, _, rfl, iteF (inb _ false (by rfl) rfl fun H2 s2 => iteF ?_)⟩⟩⟩
        have q : AnsL N H (mCmp ">=" x y) Q := q
        refine kindsLN rfl (s2 _ _ q1) (kinds_ok x y) (by kernel_rfl) fun H3 s3 => ?_
        have s4 := (s1.trans s2).trans s3
        have c1 : isNN x y = false := by cases x <;> cases y <;> first | rfl | (simp [isTT] at c2; done)
        refine iteD (congrArg not ((kk_nn x y).trans c1)) ?_
        refine kindsLN rfl (s3 _ _ (s2 _ _ q1)) (kinds_ok x y) (by kernel_rfl) fun H4 s5 => iteE (congrArg not ((kk_tt x y).trans c2)) ?_
        have s6 := s4.trans s5
        cases x with
        | txt z1 =>
          cases y with
          | txt z2 =>
            cases rv
            cases ru
            refine ⟨_, rfl, rfl, _, rfl, iteF ⟨_, rfl, rfl, _, rfl, iteF ⟨_, rfl, rfl, _, rfl, iteF ⟨_, rfl, _, rfl, _, _, rfl, rfl, ?_⟩⟩⟩⟩
            rw [← le_ge]
            exact AnsL.good q s6 (.boo _)
          | _ => cases c2
        | _ => cases c2
      | false =>
        refine ⟨_, (pss_cons (ps_set (i := 3) sc_l_operate.nd rfl (Or.inl rfl) (pe_lst (pa_cons (pe_cd T.l_kind G_l_kind (hr.mono (by omega)) pass0 (pa_cons (pv 1) pa_nil)) (pa_cons (pe_cd T.l_kind G_l_kind (hr.mono (by omega)) pass0 (pa_cons (pv 2) pa_nil)) pa_nil))))
      (pss_cons (ps_if (pt_cmpR op_eq (pv 0) pe_str (nomark _)) (pss_one (ps_ret (pe_cd T.l_sum G_l_sum (hr.mono (by omega)) pass0 (pa_cons (pv 1) (pa_cons (pv 2) pa_nil))))) pss_nil)
      (pss_cons (ps_if (pt_cmpR op_eq (pv 0) pe_str (nomark _)) (pss_one (ps_ret (pe_tup (pa_cons (pe_cd T.l_same G_l_same (hr.mono (by omega)) pass0 (pa_cons (pv 1) (pa_cons (pv 2) pa_nil))) (pa_cons pe_non pa_nil))))) pss_nil)
      (pss_cons (ps_if (pt_cmpR op_eq (pv 0) pe_str (nomark _)) (pss_one (ps_ret (pe_tup (pa_cons (pe_not (pe_cd T.l_same G_l_same (hr.mono (by omega)) pass0 (pa_cons (pv 1) (pa_cons (pv 2) pa_nil)))) (pa_cons pe_non pa_nil))))) pss_nil)
      (pss_cons (ps_if (pt_cmpR op_in_seq (pv 0) (pe_tup (pa_cons pe_str (pa_cons pe_str (pa_cons pe_str pa_nil)))) (by rfl)) (pss_cons (ps_if (pt_cmpR (op_neLL hr.units) (pv 3) (pe_lst (pa_cons pe_str (pa_cons pe_str pa_nil))) (nomark _)) (pss_one (ps_ret (pe_tup (pa_cons pe_non (pa_cons pe_str pa_nil))))) pss_nil)
      (pss_cons (ps_if (pt_cmpR op_eq (pv 0) pe_str (nomark _)) (pss_one (ps_ret (pe_cd T.l_bounded G_l_bounded (hr.mono (by omega)) pass0 (pa_cons (pe_op op_sub (pv 1) (pv 2)) pa_nil)))) pss_nil)
      (pss_cons (ps_if (pt_cmpR op_eq (pv 0) pe_str (nomark _)) (pss_one (ps_ret (pe_cd T.l_bounded G_l_bounded (hr.mono (by omega)) pass0 (pa_cons (pe_op op_mulW (pv 1) (pv 2)) pa_nil)))) pss_nil)
      (pss_cons (ps_if (pt_cmpR op_eq (pv 2) pe_int (nomark _)) (pss_one (ps_ret (pe_tup (pa_cons pe_non (pa_cons pe_str pa_nil))))) pss_nil)
      (pss_one (ps_ret (pe_cd T.l_bounded G_l_bounded (hr.mono (by omega)) pass0 (pa_cons (pe_cd T.l_quotient G_l_quotient (hr.mono (by omega)) pass0 (pa_cons (pv 1) (pa_cons (pv 2) pa_nil))) pa_nil)))))))) pss_nil)
      (pss_cons (ps_if (PW.pt (pw_and (pt_cmpR (op_neLL hr.units) (pv 3) (pe_lst (pa_cons pe_str (pa_cons pe_str pa_nil))) (nomark _)) (pw_and1 (pt_cmpR (op_neLL hr.units) (pv 3) (pe_lst (pa_cons pe_str (pa_cons pe_str pa_nil))) (nomark _))))) (pss_one (ps_ret (pe_tup (pa_cons pe_non (pa_cons pe_str pa_nil))))) pss_nil)
      (pss_cons (ps_if (pt_cmpR op_eq (pv 0) pe_str (nomark _)) (pss_one (ps_ret (pe_tup (pa_cons (pe_cmpR op_lt (pv 1) (pv 2) (nomark _)) (pa_cons pe_non pa_nil))))) pss_nil)
      (pss_cons (ps_if (pt_cmpR op_eq (pv 0) pe_str (nomark _)) (pss_one (ps_ret (pe_tup (pa_cons (pe_cmpR op_le (pv 1) (pv 2) (nomark _)) (pa_cons pe_non pa_nil))))) pss_nil)
      (pss_cons (ps_if (pt_cmpR op_eq (pv 0) pe_str (nomark _)) (pss_one (ps_ret (pe_tup (pa_cons (pe_cmpR op_gt (pv 1) (pv 2) (nomark _)) (pa_cons pe_non pa_nil))))) pss_nil)
      (pss_one (ps_ret (pe_tup (pa_cons (pe_cmpR op_ge (pv 1) (pv 2) (nomark _)) (pa_cons pe_non pa_nil)))))))))))))), ?_⟩
        refine ⟨_, rfl, v, x, rfl, rv.rd, _, rfl, u, y, rfl, ru.rd, by show 2 ≤ sizeLine; decide, fun t ht => ?_⟩
        have s1 : Same H (upd H t (.lst [.str (kindN x), .str (kindN y)])) := same_new ht _
        have q1 := upd_same (H := H) (a := t) (o := .lst [.str (kindN x), .str (kindN y)])
        refine ⟨_, rfl, rfl, _, rfl, iteF ⟨_, rfl, rfl, _, rfl, iteF ⟨_, rfl, rfl, _, rfl, iteF (inb _ false (by rfl) rfl fun H2 s2 => iteF ?_)⟩⟩⟩
        have q : AnsL N H (mCmp ">=" x y) Q := q
        refine kindsLN rfl (s2 _ _ q1) (kinds_ok x y) (by kernel_rfl) fun H3 s3 => ?_
        have s4 := (s1.trans s2).trans s3
        cases c1 : isNN x y with
        | true =>
          refine iteE (congrArg not ((kk_nn x y).trans c1)) (iteF ?_)
          cases x with
          | num i =>
            cases y with
            | num j =>
              cases rv
              cases ru
              exact ⟨_, rfl, rfl, _, rfl, iteF ⟨_, rfl, rfl, _, rfl, iteF ⟨_, rfl, rfl, _, rfl, iteF ⟨_, rfl, _, rfl, _, _, rfl, rfl, AnsL.good q s4 (.boo _)⟩⟩⟩⟩
            | _ => cases c1
          | _ => cases c1
        | false =>
          refine iteD (congrArg not ((kk_nn x y).trans c1)) ?_
          refine kindsLN rfl (s3 _ _ (s2 _ _ q1)) (kinds_ok x y) (by kernel_rfl) fun H4 s5 => iteD (congrArg not ((kk_tt x y).trans c2)) ?_
          have em : mCmp ">=" x y = .error "not to be compared" := by
            cases x <;> cases y <;> first | rfl | (simp [isNN] at c1; done) | (simp [isTT] at c2; done)
          rw [em] at q
          exact q.bad (s4.trans s5)
    · cases hl
    · cases hl
end
end K19
namespace K19
open PySem PySem.Spec PyProof.Rows L2
theorem sc_l_at : FnScope nm_l_at ["_law_value_here", "_law_place"] (defScope s_l_at) := ⟨rfl, rfl, rfl, by decide +kernel, rfl, by decide +kernel, by decide +kernel⟩
theorem sc_l_field : FnScope nm_l_field ["_law_value_here", "_law_name"] (defScope s_l_field) := ⟨rfl, rfl, rfl, by decide +kernel, rfl, by decide +kernel, by decide +kernel⟩

section
variable {P : Program} {w : World} {K : PySem.W.Frag} {mg : Str → Option Value} {base : Heap} {a : Ads}
def spLAt : Sp := fun vs H Q _ => ∃ N v x p y, vs = [v, p] ∧ Rep (AtN N H) v x ∧ Rep (At H) p y ∧ sizeV x ≤ 9000000 ∧ okV x = true ∧ AnsL N H (mAt x y) Q
/-- two tests by kinds, one after the other -/
theorem or_LN {i : Nat} {t : Addr} {H2 : Hp} {x y : Val} {R : Bool → Hp → Prop} {σ : L2.St} (hσ : σ[i]? = some (some (.ref t))) (e2 : H2 t = some (.lst [.str (kindN x), .str (kindN y)])) (h : ∀ H3, Same H2 H3 → R (isLN x y) H3) :
    tOr (tTest (tOp (rRow K false false) (tVar i) (tLst (tCons (tC (.str "list")) (tCons (tC (.str "number")) tNil))))) (tTest (tOp (rRow K false false) (tVar i) (tLst (tCons (tC (.str "text")) (tCons (tC (.str "number")) tNil))))) σ H2 R := by
  rw [← kk_ln] at h
  refine kindsLT hσ e2 (kinds_ok x y) (by kernel_rfl) fun H3 s3 => ?_
  cases c : kk x y "list" "number" with
  | true =>
    refine iteD c ?_
    have := h H3 s3
    rw [c] at this
    exact this
  | false =>
    refine iteE c (kindsLT hσ (s3 _ _ e2) (kinds_ok x y) (by kernel_rfl) fun H4 s4 => ?_)
    have := h H4 (s3.trans s4)
    rw [c] at this
    exact this
theorem ok_l_at (T : Txt P w K mg a) : FnOk P w K mg base CX0 2 a.l_at a.l_at_d ["_law_value_here", "_law_place"] spLAt := by
  have G_l_kind := ok_l_kind (base := base) T
  refine T.l_at.F.ok sc_l_at (fun vs H Q E h => ?_) (fun cdv A outer s H vs Q E hr h => ?_)
  · obtain ⟨N, v, x, p, y, rfl, _⟩ := h
    rfl
  · obtain ⟨N, v, x, p, y, rfl, nv, rp, hz, ho, q⟩ := h
    have rv := nv.n
    cases c1 : isRT x y with
    | true =>
      refine ⟨_, (pss_cons (ps_set (i := 2) sc_l_at.nd rfl (Or.inl rfl) (pe_lst (pa_cons (pe_cd T.l_kind G_l_kind (hr.mono (by omega)) pass0 (pa_cons (pv 0) pa_nil)) (pa_cons (pe_cd T.l_kind G_l_kind (hr.mono (by omega)) pass0 (pa_cons (pv 1) pa_nil)) pa_nil))))
      (pss_cons (ps_if (pt_cmpR (op_eqLL hr.units) (pv 2) (pe_lst (pa_cons pe_str (pa_cons pe_str pa_nil))) (nomark _)) (pss_cons (ps_if (pt_cmp (pc_din (hu_of hr) (pv 1) (pv 0))) (pss_one (ps_ret (pe_tup (pa_cons (pe_dget (hu_of hr) (pv 0) (pv 1) (fun _ _ => rfl)) (pa_cons pe_non pa_nil))))) pss_nil)
      (pss_one (ps_ret (pe_tup (pa_cons pe_non (pa_cons pe_str pa_nil)))))) pss_nil)
      (pss_cons (ps_if (PW.pt (pw_or (pt_cmpR (op_eqLL hr.units) (pv 2) (pe_lst (pa_cons pe_str (pa_cons pe_str pa_nil))) (nomark _)) (pw_or1 (pt_cmpR (op_eqLL hr.units) (pv 2) (pe_lst (pa_cons pe_str (pa_cons pe_str pa_nil))) (nomark _))))) (pss_cons (ps_if (pt_chain op_le op_lt pe_int (pv 1) (pe_callB call_lenV rfl T.b_len (by decide +kernel) (pa_cons (pv 0) pa_nil))) (pss_one (ps_ret (pe_tup (pa_cons (pe_dget (hu_of hr) (pv 0) (pv 1) (fun _ _ => rfl)) (pa_cons pe_non pa_nil))))) pss_nil)
      (pss_one (ps_ret (pe_tup (pa_cons pe_non (pa_cons pe_str pa_nil)))))) pss_nil)
      (pss_one (ps_ret (pe_tup (pa_cons pe_non (pa_cons pe_str pa_nil)))))))), ?_⟩
      refine ⟨_, rfl, v, x, rfl, rv.rd, _, rfl, p, y, rfl, rp.rd, by show 2 ≤ sizeLine; decide, fun t ht => ?_⟩
      have s1 : Same H (upd H t (.lst [.str (kindN x), .str (kindN y)])) := same_new ht _
      have q1 := upd_same (H := H) (a := t) (o := .lst [.str (kindN x), .str (kindN y)])
      refine kindsLT rfl q1 (kinds_ok x y) (by kernel_rfl) fun H2 s2 => iteD ((kk_rt x y).trans c1) ?_
      have sec := s1.trans s2
      cases nv with
      | @rcd d kvs ks l h' k r =>
        have h := h'.1
        cases rp with
        | txt z =>
          refine ⟨_, rfl, _, rfl, d, _, rfl, .inl ⟨kvs, .inr z, .inl (sec _ _ h), rfl, rfl⟩, _, rfl, ?_⟩
          rcases r.val z k with ⟨u, y, hu, hy, ru⟩ | ⟨hu, hy⟩
          · have em : mAt (.rcd ks l) (.txt z) = .ok y := by simp [mAt, place, hy]
            rw [em] at q
            rw [hu]
            exact iteT ⟨_, rfl, _, rfl, d, u, rfl, .inl ⟨kvs, .inr z, .inl (sec _ _ h), rfl, hu.symm⟩, q.good sec (ru.sameN sec)⟩
          · have em : mAt (.rcd ks l) (.txt z) = .error "nothing there" := by simp [mAt, place, hy]
            rw [em] at q
            rw [hu]
            exact iteF (q.bad sec)
        | _ => cases c1
      | _ => cases c1
    | false =>
      have common : ∀ {R : Bool → Hp → Prop} {t : Addr} {H2 : Hp}, H2 t = some (.lst [.str (kindN x), .str (kindN y)]) → (∀ H3, Same H2 H3 → R (isLN x y) H3) → True := fun _ _ => trivial
      cases c2 : isLN x y with
      | false =>
        refine ⟨_, (pss_cons (ps_set (i := 2) sc_l_at.nd rfl (Or.inl rfl) (pe_lst (pa_cons (pe_cd T.l_kind G_l_kind (hr.mono (by omega)) pass0 (pa_cons (pv 0) pa_nil)) (pa_cons (pe_cd T.l_kind G_l_kind (hr.mono (by omega)) pass0 (pa_cons (pv 1) pa_nil)) pa_nil))))
      (pss_cons (ps_if (pt_cmpR (op_eqLL hr.units) (pv 2) (pe_lst (pa_cons pe_str (pa_cons pe_str pa_nil))) (nomark _)) (pss_cons (ps_if (pt_cmp (pc_din (hu_of hr) (pv 1) (pv 0))) (pss_one (ps_ret (pe_tup (pa_cons (pe_dget (hu_of hr) (pv 0) (pv 1) (fun _ _ => rfl)) (pa_cons pe_non pa_nil))))) pss_nil)
      (pss_one (ps_ret (pe_tup (pa_cons pe_non (pa_cons pe_str pa_nil)))))) pss_nil)
      (pss_cons (ps_if (PW.pt (pw_or (pt_cmpR (op_eqLL hr.units) (pv 2) (pe_lst (pa_cons pe_str (pa_cons pe_str pa_nil))) (nomark _)) (pw_or1 (pt_cmpR (op_eqLL hr.units) (pv 2) (pe_lst (pa_cons pe_str (pa_cons pe_str pa_nil))) (nomark _))))) (pss_cons (ps_if (pt_chain op_le op_lt pe_int (pv 1) (pe_callB call_lenV rfl T.b_len (by decide +kernel) (pa_cons (pv 0) pa_nil))) (pss_one (ps_ret (pe_tup (pa_cons (pe_dget (hu_of hr) (pv 0) (pv 1) (fun _ _ => rfl)) (pa_cons pe_non pa_nil))))) pss_nil)
      (pss_one (ps_ret (pe_tup (pa_cons pe_non (pa_cons pe_str pa_nil)))))) pss_nil)
      (pss_one (ps_ret (pe_tup (pa_cons pe_non (pa_cons pe_str pa_nil)))))))), ?_⟩
        refine ⟨_, rfl, v, x, rfl, rv.rd, _, rfl, p, y, rfl, rp.rd, by show 2 ≤ sizeLine; decide, fun t ht => ?_⟩
        have s1 : Same H (upd H t (.lst [.str (kindN x), .str (kindN y)])) := same_new ht _
        have q1 := upd_same (H := H) (a := t) (o := .lst [.str (kindN x), .str (kindN y)])
        refine kindsLT rfl q1 (kinds_ok x y) (by kernel_rfl) fun H2 s2 => iteE ((kk_rt x y).trans c1) ?_
        have sec := s1.trans s2
        refine or_LN (x := x) (y := y) rfl (s2 _ _ q1) fun H3 s3 => iteE c2 ?_
        have em : mAt x y = .error "not a place" := by
          cases x <;> cases y <;> first | rfl | (simp [isRT] at c1; done) | (simp [isLN] at c2; done)
        rw [em] at q
        exact q.bad (sec.trans s3)
      | true =>
        cases x with
        | lst l =>
          cases y with
          | num i =>
            refine ⟨_, (pss_cons (ps_set (i := 2) sc_l_at.nd rfl (Or.inl rfl) (pe_lst (pa_cons (pe_cd T.l_kind G_l_kind (hr.mono (by omega)) pass0 (pa_cons (pv 0) pa_nil)) (pa_cons (pe_cd T.l_kind G_l_kind (hr.mono (by omega)) pass0 (pa_cons (pv 1) pa_nil)) pa_nil))))
      (pss_cons (ps_if (pt_cmpR (op_eqLL hr.units) (pv 2) (pe_lst (pa_cons pe_str (pa_cons pe_str pa_nil))) (nomark _)) (pss_cons (ps_if (pt_cmp (pc_din (hu_of hr) (pv 1) (pv 0))) (pss_one (ps_ret (pe_tup (pa_cons (pe_ix ix_list (pv 0) (pv 1) (fun _ _ => rfl)) (pa_cons pe_non pa_nil))))) pss_nil)
      (pss_one (ps_ret (pe_tup (pa_cons pe_non (pa_cons pe_str pa_nil)))))) pss_nil)
      (pss_cons (ps_if (PW.pt (pw_or (pt_cmpR (op_eqLL hr.units) (pv 2) (pe_lst (pa_cons pe_str (pa_cons pe_str pa_nil))) (nomark _)) (pw_or1 (pt_cmpR (op_eqLL hr.units) (pv 2) (pe_lst (pa_cons pe_str (pa_cons pe_str pa_nil))) (nomark _))))) (pss_cons (ps_if (pt_chain op_le op_lt pe_int (pv 1) (pe_callB call_lenV rfl T.b_len (by decide +kernel) (pa_cons (pv 0) pa_nil))) (pss_one (ps_ret (pe_tup (pa_cons (pe_ix ix_list (pv 0) (pv 1) (fun _ _ => rfl)) (pa_cons pe_non pa_nil))))) pss_nil)
      (pss_one (ps_ret (pe_tup (pa_cons pe_non (pa_cons pe_str pa_nil)))))) pss_nil)
      (pss_one (ps_ret (pe_tup (pa_cons pe_non (pa_cons pe_str pa_nil)))))))), ?_⟩
            refine ⟨_, rfl, v, _, rfl, rv.rd, _, rfl, p, _, rfl, rp.rd, by show 2 ≤ sizeLine; decide, fun t ht => ?_⟩
            have s1 : Same H (upd H t (.lst [.str (kindN (.lst l)), .str (kindN (.num i))])) := same_new ht _
            have q1 := upd_same (H := H) (a := t) (o := .lst [.str (kindN (.lst l)), .str (kindN (.num i))])
            refine kindsLT rfl q1 (kinds_ok (.lst l) (.num i)) (by kernel_rfl) fun H2 s2 => iteE ((kk_rt (.lst l) (.num i)).trans c1) ?_
            refine or_LN (x := .lst l) (y := .num i) rfl (s2 _ _ q1) fun H3 s3 => iteD c2 ?_
            have sec := (s1.trans s2).trans s3
            have rv0 := rv.same sec
            cases rp
            cases nv with
            | @lst d xs _ h' r =>
            have h := h'.1
            have hl := sizeL_len l
            simp only [sizeV] at hz
            refine ⟨_, rfl, _, _, rfl, rfl, _, rfl, ?_⟩
            by_cases c : 0 ≤ i ∧ i < (l.length : Int)
            · obtain ⟨z, eg⟩ := getD_some (l := l) (i := i.toNat) (by omega)
              have em : mAt (.lst l) (.num i) = .ok z := by simp only [mAt, place, if_pos c, eg]
              rw [em] at q
              obtain ⟨u, hu, ru⟩ := r.get' eg
              refine iteD (decide_eq_true c.1) ⟨_, rfl, _, .lst l, rfl, rv0.rd, rfl, by show l.length ≤ _; omega, _, _, rfl, rfl, _, rfl, iteD (decide_eq_true c.2) ?_⟩
              refine ⟨_, rfl, _, rfl, d, xs, i, u, rfl, rfl, SqL.of (sec _ _ h), ?_, q.good sec (ru.sameN sec)⟩
              rw [show i = ((i.toNat : Nat) : Int) by omega]
              exact atI_nat hu
            · have em : mAt (.lst l) (.num i) = .error "nothing there" := by simp only [mAt, place, if_neg c]
              rw [em] at q
              by_cases c0 : 0 ≤ i
              · exact iteD (decide_eq_true c0) ⟨_, rfl, _, .lst l, rfl, rv0.rd, rfl, by show l.length ≤ _; omega, _, _, rfl, rfl, _, rfl, iteE (decide_eq_false (by show ¬ i < (l.length : Int); omega)) (q.bad sec)⟩
              · exact iteE (decide_eq_false c0) ⟨_, rfl, iteF (q.bad sec)⟩
          | _ => cases c2
        | txt w =>
          cases y with
          | num i =>
            refine ⟨_, (pss_cons (ps_set (i := 2) sc_l_at.nd rfl (Or.inl rfl) (pe_lst (pa_cons (pe_cd T.l_kind G_l_kind (hr.mono (by omega)) pass0 (pa_cons (pv 0) pa_nil)) (pa_cons (pe_cd T.l_kind G_l_kind (hr.mono (by omega)) pass0 (pa_cons (pv 1) pa_nil)) pa_nil))))
      (pss_cons (ps_if (pt_cmpR (op_eqLL hr.units) (pv 2) (pe_lst (pa_cons pe_str (pa_cons pe_str pa_nil))) (nomark _)) (pss_cons (ps_if (pt_cmp (pc_din (hu_of hr) (pv 1) (pv 0))) (pss_one (ps_ret (pe_tup (pa_cons (pe_ix ix_str (pv 0) (pv 1) (fun _ _ => rfl)) (pa_cons pe_non pa_nil))))) pss_nil)
      (pss_one (ps_ret (pe_tup (pa_cons pe_non (pa_cons pe_str pa_nil)))))) pss_nil)
      (pss_cons (ps_if (PW.pt (pw_or (pt_cmpR (op_eqLL hr.units) (pv 2) (pe_lst (pa_cons pe_str (pa_cons pe_str pa_nil))) (nomark _)) (pw_or1 (pt_cmpR (op_eqLL hr.units) (pv 2) (pe_lst (pa_cons pe_str (pa_cons pe_str pa_nil))) (nomark _))))) (pss_cons (ps_if (pt_chain op_le op_lt pe_int (pv 1) (pe_callB call_lenV rfl T.b_len (by decide +kernel) (pa_cons (pv 0) pa_nil))) (pss_one (ps_ret (pe_tup (pa_cons (pe_ix ix_str (pv 0) (pv 1) (fun _ _ => rfl)) (pa_cons pe_non pa_nil))))) pss_nil)
      (pss_one (ps_ret (pe_tup (pa_cons pe_non (pa_cons pe_str pa_nil)))))) pss_nil)
      (pss_one (ps_ret (pe_tup (pa_cons pe_non (pa_cons pe_str pa_nil)))))))), ?_⟩
            refine ⟨_, rfl, v, _, rfl, rv.rd, _, rfl, p, _, rfl, rp.rd, by show 2 ≤ sizeLine; decide, fun t ht => ?_⟩
            have s1 : Same H (upd H t (.lst [.str (kindN (.txt w)), .str (kindN (.num i))])) := same_new ht _
            have q1 := upd_same (H := H) (a := t) (o := .lst [.str (kindN (.txt w)), .str (kindN (.num i))])
            refine kindsLT rfl q1 (kinds_ok (.txt w) (.num i)) (by kernel_rfl) fun H2 s2 => iteE ((kk_rt (.txt w) (.num i)).trans c1) ?_
            refine or_LN (x := .txt w) (y := .num i) rfl (s2 _ _ q1) fun H3 s3 => iteD c2 ?_
            have sec := (s1.trans s2).trans s3
            have rv0 := rv.same sec
            cases rp
            cases nv
            have ezl : w.cps.toList.length = w.length := by simp [Str.length]
            simp only [sizeV] at hz
            refine ⟨_, rfl, _, _, rfl, rfl, _, rfl, ?_⟩
            by_cases c : 0 ≤ i ∧ i < (w.length : Int)
            · obtain ⟨ch, eg⟩ := getD_some (l := w.cps.toList) (i := i.toNat) (by omega)
              have em : mAt (.txt w) (.num i) = .ok (.txt ⟨#[ch]⟩) := by simp only [mAt, place, if_pos c, eg, Option.map_some]
              rw [em] at q
              refine iteD (decide_eq_true c.1) ⟨_, rfl, _, .txt w, rfl, rv0.rd, rfl, by show w.length ≤ _; omega, _, _, rfl, rfl, _, rfl, iteD (decide_eq_true c.2) ?_⟩
              refine ⟨_, rfl, _, rfl, w, i, ch, rfl, rfl, le_line (by omega), ?_, q.good sec (.txt _)⟩
              rw [show i = ((i.toNat : Nat) : Int) by omega]
              exact atI_nat eg
            · have em : mAt (.txt w) (.num i) = .error "nothing there" := by simp only [mAt, place, if_neg c]
              rw [em] at q
              by_cases c0 : 0 ≤ i
              · exact iteD (decide_eq_true c0) ⟨_, rfl, _, .txt w, rfl, rv0.rd, rfl, by show w.length ≤ _; omega, _, _, rfl, rfl, _, rfl, iteE (decide_eq_false (by show ¬ i < (w.length : Int); omega)) (q.bad sec)⟩
              · exact iteE (decide_eq_false c0) ⟨_, rfl, iteF (q.bad sec)⟩
          | _ => cases c2
        | _ => cases c2
def spLField : Sp := fun vs H Q _ => ∃ N v x n, vs = [v, .str n] ∧ Rep (AtN N H) v x ∧ n.length ≤ 1000 ∧ AnsL N H (mField x n) Q
theorem ok_l_field (T : Txt P w K mg a) : FnOk P w K mg base CX0 2 a.l_field a.l_field_d ["_law_value_here", "_law_name"] spLField := by
  have G_l_kind := ok_l_kind (base := base) T
  refine T.l_field.F.ok sc_l_field (fun vs H Q E h => ?_) (fun cdv A outer s H vs Q E hr h => ?_)
  · obtain ⟨N, v, x, n, rfl, _⟩ := h
    rfl
  · obtain ⟨N, v, x, n, rfl, nv, hn, q⟩ := h
    have rv := nv.n
    refine ⟨_, (pss_cons (ps_if (pt_cmpR op_ne (pe_cd T.l_kind G_l_kind (hr.mono (by omega)) pass0 (pa_cons (pv 0) pa_nil)) pe_str (nomark _)) (pss_one (ps_ret (pe_tup (pa_cons pe_non (pa_cons pe_str pa_nil))))) pss_nil)
      (pss_cons (ps_if (pt_cmp (pc_dnotin (hu_of hr) (pv 1) (pv 0))) (pss_one (ps_ret (pe_tup (pa_cons pe_non (pa_cons (pe_op op_add_str pe_str (pv 1)) pa_nil))))) pss_nil)
      (pss_one (ps_ret (pe_tup (pa_cons (pe_dget (hu_of hr) (pv 0) (pv 1) (fun _ _ => rfl)) (pa_cons pe_non pa_nil))))))), ?_⟩
    refine ⟨_, rfl, v, x, rfl, rv.rd, rfl, _, rfl, ?_⟩
    cases nv with
    | @rcd d kvs ks l h' k r =>
      have h := h'.1
      refine iteF ⟨_, rfl, _, rfl, d, _, rfl, .inl ⟨kvs, .inr n, .inl h, rfl, rfl⟩, _, rfl, ?_⟩
      rcases r.val n k with ⟨u, y, hu, hy, ru⟩ | ⟨hu, hy⟩
      · have em : mField (.rcd ks l) n = .ok y := by simp [mField, hy]
        rw [em] at q
        rw [hu]
        exact iteF ⟨_, rfl, _, rfl, d, u, rfl, .inl ⟨kvs, .inr n, .inl h, rfl, hu.symm⟩, q.good (Same.refl H) ru⟩
      · have em : mField (.rcd ks l) n = .error ("no field " ++ n) := by simp [mField, hy]
        rw [em] at q
        rw [hu]
        exact iteT ⟨_, rfl, _, _, rfl, rfl, le_line (by show 9 + n.length ≤ _; omega), q.bad (Same.refl H)⟩
    | _ => exact iteT (q.bad (Same.refl H))
end
end K19
namespace K19
open PySem PySem.Spec PyProof.Rows L2
theorem sc_l_call : FnScope nm_l_call ["_law_name", "_law_arguments"] (defScope s_l_call) := ⟨rfl, rfl, rfl, by decide +kernel, rfl, by decide +kernel, by decide +kernel⟩

def isSized : Val → Bool
  | .txt _ => true
  | .lst _ => true
  | .rcd _ _ => true
  | _ => false
theorem in_sized (x : Val) : inV (.str (kindN x)) [.str "text", .str "list", .str "record"] = isSized x := by
  cases x <;> kernel_rfl
section
variable {P : Program} {w : World} {K : PySem.W.Frag} {mg : Str → Option Value} {base : Heap} {a : Ads}
def spLCall : Sp := fun vs H Q _ => ∃ N f b xs l, vs = [.str (Fn.name f), .ref b] ∧ H b = some (.lst xs) ∧ RepL (AtN N H) xs l ∧ argsOk l ∧ l.length = f.arity ∧ AnsL N H (mCall f l) Q
theorem place_err {x p : Val} {m : Str} (h : place x p = .error m) : m = "not a place" := by
  unfold place at h
  split at h <;> cases h
  rfl
theorem ok_l_call (T : Txt P w K mg a) : FnOk P w K mg base CX0 27 a.l_call a.l_call_d ["_law_name", "_law_arguments"] spLCall := by
  have G_l_kind := ok_l_kind (base := base) T
  have G_l_text_of := ok_l_text_of (base := base) T
  have G_l_at := ok_l_at (base := base) T
  have G_l_made := ok_l_made (base := base) T
  refine T.l_call.F.ok sc_l_call (fun vs H Q E h => ?_) (fun cdv A outer s H vs Q E hr h => ?_)
  · obtain ⟨N, f, b, xs, l, rfl, _⟩ := h
    rfl
  · obtain ⟨N, f, b, xs, l, rfl, hb, nl, ok, hl, q⟩ := h
    have rl := nl.n
    refine ⟨_, (pss_cons (ps_set (i := 2) sc_l_call.nd rfl (Or.inl rfl) (pe_ix ix_list (pv 1) pe_int (fun _ _ => rfl)))
      (pss_cons (ps_set (i := 3) sc_l_call.nd rfl (Or.inl rfl) (pe_cd T.l_kind G_l_kind (hr.mono (by omega)) pass0 (pa_cons (pv 2) pa_nil)))
      (pss_cons (ps_if (pt_cmpR op_eq (pv 0) pe_str (nomark _)) (pss_cons (ps_if (pt_cmpR op_notIn_seq (pv 3) (pe_tup (pa_cons pe_str (pa_cons pe_str (pa_cons pe_str pa_nil)))) (by rfl)) (pss_one (ps_ret (pe_tup (pa_cons pe_non (pa_cons pe_str pa_nil))))) pss_nil)
      (pss_one (ps_ret (pe_tup (pa_cons (pe_callB call_lenV rfl T.b_len (by decide +kernel) (pa_cons (pv 2) pa_nil)) (pa_cons pe_non pa_nil)))))) pss_nil)
      (pss_cons (ps_if (pt_cmpR op_eq (pv 0) pe_str (nomark _)) (pss_cons (ps_if (pt_cmpR op_isN (pe_cd T.l_text_of G_l_text_of (hr.mono (by omega)) pass0 (pa_cons (pv 2) pa_nil)) pe_non (nomark _)) (pss_one (ps_ret (pe_tup (pa_cons pe_non (pa_cons pe_str pa_nil))))) pss_nil)
      (pss_one (ps_ret (pe_tup (pa_cons (pe_cd T.l_text_of G_l_text_of (hr.mono (by omega)) pass0 (pa_cons (pv 2) pa_nil)) (pa_cons pe_non pa_nil)))))) pss_nil)
      (pss_cons (ps_if (pt_cmpR op_eq (pv 0) pe_str (nomark _)) (pss_cons (ps_set (i := 4) sc_l_call.nd rfl (Or.inl rfl) (pe_cd T.l_at G_l_at (hr.mono (by omega)) pass0 (pa_cons (pv 2) (pa_cons (pe_ix ix_list (pv 1) pe_int (fun _ _ => rfl)) pa_nil))))
      (pss_cons (ps_if (PW.pt (pw_or (pt_cmpR op_isN (pv 2) pe_non (nomark _)) (pw_or1 (pt_cmpR op_eq (pe_ix ix_tup (pv 4) pe_int (fun _ _ => rfl)) pe_str (nomark _))))) (pss_one (ps_ret (pe_tup (pa_cons (pe_ix ix_list (pv 1) pe_int (fun _ _ => rfl)) (pa_cons pe_non pa_nil))))) pss_nil)
      (pss_one (ps_ret (pv 4))))) pss_nil)
      (pss_cons (ps_if (pt_cmpR op_eq (pv 0) pe_str (nomark _)) (pss_cons (ps_if (pt_cmpR op_ne (pv 3) pe_str (nomark _)) (pss_one (ps_ret (pe_tup (pa_cons pe_non (pa_cons pe_str pa_nil))))) pss_nil)
      (pss_one (ps_ret (pe_cd T.l_made G_l_made (hr.mono (by omega)) pass0 (pa_cons (pe_callB (call_sortedD rfl) rfl T.b_sorted (by decide +kernel) (pa_cons (pv 2) pa_nil)) pa_nil))))) pss_nil)
      (pss_cons (ps_if (PW.pt (pw_or (pt_cmpR op_ne (pv 3) pe_str (nomark _)) (pw_or1 (pt_cmpR op_ne (pe_cd T.l_kind G_l_kind (hr.mono (by omega)) pass0 (pa_cons (pe_ix ix_list (pv 1) pe_int (fun _ _ => rfl)) pa_nil)) pe_str (nomark _))))) (pss_one (ps_ret (pe_tup (pa_cons pe_non (pa_cons pe_str pa_nil))))) pss_nil)
      (pss_one (ps_ret (pe_tup (pa_cons (pe_ix ix_list (pe_lst (pa_cons (pe_callB (call_min2 rfl) rfl T.b_min (by decide +kernel) (pa_cons (pv 2) (pa_cons (pe_ix ix_list (pv 1) pe_int (fun _ _ => rfl)) pa_nil))) (pa_cons (pe_callB (call_max2 rfl) rfl T.b_max (by decide +kernel) (pa_cons (pv 2) (pa_cons (pe_ix ix_list (pv 1) pe_int (fun _ _ => rfl)) pa_nil))) pa_nil))) (pe_callTy call_int1 rfl T.b_int (by decide +kernel) (pa_cons (pe_cmpR op_eq (pv 0) pe_str (nomark _)) pa_nil)) (fun _ _ => rfl)) (pa_cons pe_non pa_nil)))))))))))), ?_⟩
    cases f with
    | length =>
      obtain ⟨x, rfl⟩ := one_of hl
      obtain ⟨v, rfl⟩ := one_of rl.length
      obtain ⟨o1, o2, o3⟩ := ok x (by simp)
      cases rl with
      | cons rv _ =>
      refine ⟨_, rfl, b, _, 0, v, rfl, rfl, SqL.of hb, rfl, _, rfl, v, x, rfl, rv.rd, ?_⟩
      refine ⟨_, rfl, rfl, _, rfl, iteT ⟨_, rfl, in_tup (ss := [Str.ofString "text", Str.ofString "list", Str.ofString "record"]) (fun Q q => q) (by show 3 ≤ 100; decide) _ (in_sized x) fun H1 s1 => ⟨_, rfl, ?_⟩⟩⟩
      cases c : isSized x with
      | false =>
        have em : mCall .length [x] = .error "not a list, text or record" := by cases x <;> first | rfl | cases c
        rw [em] at q
        exact iteT (q.bad s1)
      | true =>
        have fin : ∀ n : Nat, sizedV x = true → lenV x = n → n ≤ 9000000 → mCall .length [x] = .ok (.num n) → tRet (tTup (tCons (tCB rLenV (tCons (tVar 2) tNil)) (tCons (tC .non) tNil))) { nx := fun x H' => Q V.non H', rt := Q } [some (.str "length"), some (.ref b), some v, some (.str (kindN x)), none] H1 := by
          intro n h1 h2 h3 e
          rw [e] at q
          subst h2
          exact ⟨_, rfl, v, x, rfl, (rv.same s1).rd, h1, by omega, q.good s1 (.num _)⟩
        refine iteF ?_
        cases x with
        | txt s =>
          simp only [sizeV] at o3
          exact fin s.length rfl rfl (by omega) rfl
        | lst l =>
          simp only [sizeV] at o3
          have := sizeL_len l
          exact fin l.length rfl rfl (by omega) rfl
        | rcd ks l =>
          have := (ok_rcd o1).2.2.1
          exact fin ks.length rfl rfl (by omega) rfl
        | _ => cases c
    | text =>
      obtain ⟨x, rfl⟩ := one_of hl
      obtain ⟨v, rfl⟩ := one_of rl.length
      obtain ⟨o1, o2, o3⟩ := ok x (by simp)
      cases rl with
      | cons rv _ =>
      refine ⟨_, rfl, b, _, 0, v, rfl, rfl, SqL.of hb, rfl, _, rfl, v, x, rfl, rv.rd, ?_⟩
      refine ⟨_, rfl, rfl, _, rfl, iteF ⟨_, rfl, rfl, _, rfl, iteT ⟨_, rfl, v, x, rfl, rv, o1, fun H1 s1 => ?_⟩⟩⟩
      cases e : textOf x with
      | none =>
        have em : mCall .text [x] = .error "not a text" := by simp [mCall, e]
        rw [em] at q
        exact ⟨rfl, _, rfl, iteT (q.bad s1)⟩
      | some z =>
        have em : mCall .text [x] = .ok (.txt z) := by simp [mCall, e]
        rw [em] at q
        refine ⟨rfl, _, rfl, iteF ⟨_, rfl, v, x, rfl, rv.same s1, o1, fun H2 s2 => ?_⟩⟩
        rw [e]
        exact q.good (s1.trans s2) (.txt z)
    | get =>
      obtain ⟨x, p, d, rfl⟩ := three_of hl
      obtain ⟨v, u, o, rfl⟩ := three_of rl.length
      obtain ⟨o1, o2, o3⟩ := ok x (by simp)
      cases nl with
      | cons nv r2 =>
      cases r2 with
      | cons nu r3 =>
      cases r3 with
      | cons no _ =>
      have rv := nv.n
      have ru := nu.n
      refine ⟨_, rfl, b, _, 0, v, rfl, rfl, SqL.of hb, rfl, _, rfl, v, x, rfl, rv.rd, ?_⟩
      refine ⟨_, rfl, rfl, _, rfl, iteF ⟨_, rfl, rfl, _, rfl, iteF ⟨_, rfl, rfl, _, rfl, iteT ?_⟩⟩⟩
      refine ⟨_, rfl, _, rfl, b, _, 1, u, rfl, rfl, SqL.of hb, rfl, N, v, x, u, p, rfl, nv, ru, by omega, o1, q.1, fun t H1 s1 ht => ?_⟩
      by_cases hx : x = .nul
      · subst hx
        cases rv
        exact ⟨_, rfl, rfl, _, rfl, iteT (iteT ⟨_, rfl, b, _, 2, o, rfl, rfl, SqL.of (s1 _ _ hb), rfl, AnsL.good (x := d) q s1 (no.sameN s1)⟩)⟩
      · have hv : v ≠ .non := fun e => by
          subst e
          cases rv
          exact hx rfl
        refine ⟨_, rfl, rfl, _, rfl, iteE (decide_eq_false hv) ?_⟩
        have em : mCall .get [x, p, d] = (match place x p with | .error m => .error m | .ok none => .ok d | .ok (some y) => .ok y : Res) := by
          cases x <;> first | rfl | exact absurd rfl hx
        rw [em] at q
        cases ep : place x p with
        | error m =>
          have e2 : mAt x p = .error m := by simp [mAt, ep]
          have e3 := place_err ep
          subst e3
          rw [e2] at ht
          rw [ep] at q
          exact ⟨_, rfl, t, _, 1, _, rfl, rfl, SqT.of ht.1, rfl, rfl, _, rfl, iteF ⟨_, rfl, q.2 _ _ s1 ht⟩⟩
        | ok o' =>
          cases o' with
          | none =>
            have e2 : mAt x p = .error "nothing there" := by simp [mAt, ep]
            rw [e2] at ht
            rw [ep] at q
            exact ⟨_, rfl, t, _, 1, _, rfl, rfl, SqT.of ht.1, rfl, rfl, _, rfl, iteT ⟨_, rfl, b, _, 2, o, rfl, rfl, SqL.of (s1 _ _ hb), rfl, AnsL.good (x := d) q s1 (no.sameN s1)⟩⟩
          | some y =>
            have e2 : mAt x p = .ok y := by simp [mAt, ep]
            rw [e2] at ht
            rw [ep] at q
            obtain ⟨z, ht', rz⟩ := ht
            exact ⟨_, rfl, t, _, 1, _, rfl, rfl, SqT.of ht'.1, rfl, rfl, _, rfl, iteF ⟨_, rfl, q.2 _ _ s1 ⟨z, ht', rz⟩⟩⟩
    | keys =>
      obtain ⟨x, rfl⟩ := one_of hl
      obtain ⟨v, rfl⟩ := one_of rl.length
      obtain ⟨o1, o2, o3⟩ := ok x (by simp)
      cases rl with
      | cons rv _ =>
      refine ⟨_, rfl, b, _, 0, v, rfl, rfl, SqL.of hb, rfl, _, rfl, v, x, rfl, rv.rd, ?_⟩
      refine ⟨_, rfl, rfl, _, rfl, iteF ⟨_, rfl, rfl, _, rfl, iteF ⟨_, rfl, rfl, _, rfl, iteF ⟨_, rfl, rfl, _, rfl, iteT ⟨_, rfl, rfl, _, rfl, ?_⟩⟩⟩⟩⟩
      cases rv with
      | @rcd d kvs ks l h k r =>
        have h40 := (ok_rcd o1).2.2.1
        refine iteF ⟨_, rfl, d, kvs, ks, rfl, .inl h, k, by omega, fun ys p py sy hp => ?_⟩
        have e := sortS_uniq py sy
        subst e
        have s1 := same_new hp (.lst ((sortS ks).map V.str))
        have hd := depthL_txts (sortS ks)
        have hz := sizeL_txts (sortS ks)
        have hs := lens_perm (sortS_perm ks)
        have hn := sortS_length ks
        simp only [sizeV] at o3
        exact ⟨N, .ref p, .lst ((sortS ks).map Val.txt), rfl, .lst ⟨upd_same, AnsL.free q (Same.refl H) hp⟩ (rep_txts _), okL_txts _, by simp only [depthV]; omega, by simp only [sizeV]; omega, AnsL.later (r := mMade (.lst ((sortS ks).map Val.txt))) q s1⟩
      | _ => exact iteT (AnsL.bad (m := "not a record") q (Same.refl H))
    | min =>
      obtain ⟨x, y, rfl⟩ := two_of hl
      obtain ⟨v, u, rfl⟩ := two_of rl.length
      cases rl with
      | cons rv r2 =>
      cases r2 with
      | cons ru _ =>
      refine ⟨_, rfl, b, _, 0, v, rfl, rfl, SqL.of hb, rfl, _, rfl, v, x, rfl, rv.rd, ?_⟩
      refine ⟨_, rfl, rfl, _, rfl, iteF ⟨_, rfl, rfl, _, rfl, iteF ⟨_, rfl, rfl, _, rfl, iteF ⟨_, rfl, rfl, _, rfl, iteF ⟨_, rfl, rfl, _, rfl, ?_⟩⟩⟩⟩⟩
      by_cases c : kindN x = "number"
      · refine iteE (by rw [c]; rfl) ⟨_, rfl, b, _, 1, u, rfl, rfl, SqL.of hb, rfl, u, y, rfl, ru.rd, rfl, _, rfl, ?_⟩
        cases x with
        | num i =>
          by_cases c2 : kindN y = "number"
          · refine iteE (by rw [c2]; rfl) ?_
            cases y with
            | num j =>
              cases rv
              cases ru
              refine ⟨_, rfl, _, rfl, b, _, 1, _, rfl, rfl, SqL.of hb, rfl, i, j, rfl, _, rfl, _, rfl, b, _, 1, _, rfl, rfl, SqL.of hb, rfl, i, j, rfl, by show 2 ≤ sizeLine; decide, fun p hp => ?_⟩
              have s1 := same_new hp (.lst [.int (if j < i then j else i), .int (if j > i then j else i)])
              exact ⟨_, rfl, rfl, .inr ⟨_, rfl, p, _, 0, _, rfl, rfl, SqL.of upd_same, rfl, AnsL.good (x := .num _) q s1 (.num _)⟩⟩
            | _ => cases c2
          · refine iteD (by rw [decide_eq_false fun e => c2 (by injection e)]; rfl) ?_
            have em : mCall .min [.num i, y] = .error "not a number" := by cases y <;> first | rfl | exact absurd rfl c2
            rw [em] at q
            exact q.bad (Same.refl H)
        | _ => cases c
      · refine iteD (by rw [decide_eq_false fun e => c (by injection e)]; rfl) (iteT ?_)
        have em : mCall .min [x, y] = .error "not a number" := by cases x <;> first | rfl | exact absurd rfl c
        rw [em] at q
        exact q.bad (Same.refl H)
    | max =>
      obtain ⟨x, y, rfl⟩ := two_of hl
      obtain ⟨v, u, rfl⟩ := two_of rl.length
      cases rl with
      | cons rv r2 =>
      cases r2 with
      | cons ru _ =>
      refine ⟨_, rfl, b, _, 0, v, rfl, rfl, SqL.of hb, rfl, _, rfl, v, x, rfl, rv.rd, ?_⟩
      refine ⟨_, rfl, rfl, _, rfl, iteF ⟨_, rfl, rfl, _, rfl, iteF ⟨_, rfl, rfl, _, rfl, iteF ⟨_, rfl, rfl, _, rfl, iteF ⟨_, rfl, rfl, _, rfl, ?_⟩⟩⟩⟩⟩
      by_cases c : kindN x = "number"
      · refine iteE (by rw [c]; rfl) ⟨_, rfl, b, _, 1, u, rfl, rfl, SqL.of hb, rfl, u, y, rfl, ru.rd, rfl, _, rfl, ?_⟩
        cases x with
        | num i =>
          by_cases c2 : kindN y = "number"
          · refine iteE (by rw [c2]; rfl) ?_
            cases y with
            | num j =>
              cases rv
              cases ru
              refine ⟨_, rfl, _, rfl, b, _, 1, _, rfl, rfl, SqL.of hb, rfl, i, j, rfl, _, rfl, _, rfl, b, _, 1, _, rfl, rfl, SqL.of hb, rfl, i, j, rfl, by show 2 ≤ sizeLine; decide, fun p hp => ?_⟩
              have s1 := same_new hp (.lst [.int (if j < i then j else i), .int (if j > i then j else i)])
              exact ⟨_, rfl, rfl, .inr ⟨_, rfl, p, _, 1, _, rfl, rfl, SqL.of upd_same, rfl, AnsL.good (x := .num _) q s1 (.num _)⟩⟩
            | _ => cases c2
          · refine iteD (by rw [decide_eq_false fun e => c2 (by injection e)]; rfl) ?_
            have em : mCall .max [.num i, y] = .error "not a number" := by cases y <;> first | rfl | exact absurd rfl c2
            rw [em] at q
            exact q.bad (Same.refl H)
        | _ => cases c
      · refine iteD (by rw [decide_eq_false fun e => c (by injection e)]; rfl) (iteT ?_)
        have em : mCall .max [x, y] = .error "not a number" := by cases x <;> first | rfl | exact absurd rfl c
        rw [em] at q
        exact q.bad (Same.refl H)
end
end K19
namespace K19
open PySem PySem.Spec PyProof.Rows L2
theorem sc_l_all : FnScope nm_l_all ["_law_parts_here", "_law_environment_here", "_law_owner"] (defScope s_l_all) := ⟨rfl, rfl, rfl, by decide +kernel, rfl, by decide +kernel, by decide +kernel⟩
theorem sc_l_boolean : FnScope nm_l_boolean ["_law_found"] (defScope s_l_boolean) := ⟨rfl, rfl, rfl, by decide +kernel, rfl, by decide +kernel, by decide +kernel⟩
theorem sc_l_two : FnScope nm_l_two ["_law_expression_here", "_law_environment_here", "_law_owner"] (defScope s_l_two) := ⟨rfl, rfl, rfl, by decide +kernel, rfl, by decide +kernel, by decide +kernel⟩

structure EnvN (N : Addr → Prop) (H : Hp) (d : Addr) (ks : List Str) (l : List Val) (o : Int) (n : Nat) : Prop where
  ex : ∃ kvs, H d = some (.dK kvs) ∧ kvs.map (·.1) = ks.map Sum.inr ∧ RepL (AtN N H) (kvs.map (·.2)) l
  nd : ks.Nodup
  len : ks.length + n ≤ 200
  ob : o.natAbs ≤ 1000
  gl : goodL l
  dn : ¬ N d
theorem EnvN.same {N : Addr → Prop} {H H' : Hp} {d : Addr} {ks : List Str} {l : List Val} {o : Int} {n : Nat} (h : EnvN N H d ks l o n) (s : Same H H') : EnvN N H' d ks l o n :=
  ⟨let ⟨kvs, a, b, c⟩ := h.ex; ⟨kvs, s _ _ a, b, c.sameN s⟩, h.nd, h.len, h.ob, h.gl, h.dn⟩
theorem EnvN.down {N : Addr → Prop} {H : Hp} {d : Addr} {ks : List Str} {l : List Val} {o : Int} {n m : Nat} (h : EnvN N H d ks l o n) (s : m ≤ n) : EnvN N H d ks l o m :=
  ⟨h.ex, h.nd, by have := h.len; omega, h.ob, h.gl, h.dn⟩
/-- and apart from a new thing -/
theorem EnvN.apart {N : Addr → Prop} {H : Hp} {d : Addr} {ks : List Str} {l : List Val} {o : Int} {n : Nat} (h : EnvN N H d ks l o n) {D : Addr} (hD : H D = none) : EnvN (fun a => N a ∨ a = D) H d ks l o n :=
  ⟨let ⟨kvs, a, b, c⟩ := h.ex; ⟨kvs, a, b, c.mono fun a u e => ⟨e.1, fun z => z.elim e.2 fun z => by have e1 := e.1; rw [z, hD] at e1; cases e1⟩⟩, h.nd, h.len, h.ob, h.gl, fun z => z.elim h.dn fun z => by
    obtain ⟨kvs, a, _⟩ := h.ex
    rw [z, hD] at a
    cases a⟩
theorem NOk.apart {N : Addr → Prop} {H : Hp} (h : NOk N H) {D : Addr} (hD : H D = none) (u : HO) : NOk (fun a => N a ∨ a = D) (upd H D u) := fun a ha => by
  by_cases e : a = D
  · rw [e, upd_same]
    simp
  · rw [upd_ne e]
    exact h a (ha.resolve_right e)
def lstR : Except Str (List Val) → Res
  | .ok ys => .ok (.lst ys)
  | .error m => .error m
def boolR : Res → Res
  | .ok (.boo b) => .ok (.boo b)
  | .ok _ => .error "not true or false"
  | .error m => .error m
section
variable {P : Program} {w : World} {K : PySem.W.Frag} {mg : Str → Option Value} {base : Heap} {a : Ads}
def spLEv (n : Nat) : Sp := fun vs H Q _ => ∃ N e ex d ks l o, vs = [e, .ref d, .int o] ∧ RepE (At H) e ex ∧ EnvN N H d ks l o n ∧ wfE ex ks = true ∧ depE ex ≤ n ∧ AnsL N H (evE o ex ks l) Q
def spLAll (n : Nat) : Sp := fun vs H Q _ => ∃ N b xs es d ks l o, vs = [.ref b, .ref d, .int o] ∧ H b = some (.lst xs) ∧ RepEs (At H) xs es ∧ EnvN N H d ks l o n ∧ wfEs es ks = true ∧ depEs es ≤ n ∧ es.length ≤ 1000 ∧ AnsL N H (lstR (evEs o es ks l)) Q
theorem ok_l_all (T : Txt P w K mg a) {n k : Nat} (G_l_eval : FnOk P w K mg base CX0 k a.l_eval a.l_eval_d ["_law_expression_here", "_law_environment_here", "_law_owner"] (spLEv n)) : FnOk P w K mg base CX0 (k + 1) a.l_all a.l_all_d ["_law_parts_here", "_law_environment_here", "_law_owner"] (spLAll n) := by
  refine T.l_all.F.ok sc_l_all (fun vs H Q E h => ?_) (fun cdv A outer s H vs Q E hr h => ?_)
  · obtain ⟨N, b, xs, es, d, ks, l, o, rfl, _⟩ := h
    rfl
  · obtain ⟨N, b, xs, es, d, ks, l, o, rfl, hb, re, env, wf, dp, hl, q⟩ := h
    refine ⟨_, (pss_cons (ps_set (i := 3) sc_l_all.nd rfl (Or.inl rfl) (pe_lst pa_nil))
      (pss_cons (ps_for PassesOwn.never rfl (pi_list (pv 0)) (pg_name (i := 4) sc_l_all.nd rfl (Or.inl rfl)) (pss_cons (ps_set (i := 5) sc_l_all.nd rfl (Or.inl rfl) (pe_cd T.l_eval G_l_eval (hr.mono (by omega)) pass0 (pa_cons (pv 4) (pa_cons (pv 1) (pa_cons (pv 2) pa_nil)))))
      (pss_cons (ps_if (pt_cmpR op_notN (pe_ix ix_tup (pv 5) pe_int (fun _ _ => rfl)) pe_non (nomark _)) (pss_one (ps_ret (pv 5))) pss_nil)
      (pss_one (ps_expr (pe_bm PySem.F.plainAttrs_list PySem.F.slot_list_append PySem.F.type_list_append mt_append (pv 3) (pa_cons (pe_ix ix_tup (pv 5) pe_int (fun _ _ => rfl)) pa_nil)))))))
      (pss_one (ps_ret (pe_tup (pa_cons (pv 3) (pa_cons pe_non pa_nil))))))), ?_⟩
    rw [evEs_seq] at q
    refine ⟨Nat.zero_le _, fun D hD => ?_⟩
    have sD := same_new hD (.lst [])
    have nD : ¬ N D := AnsL.free q (Same.refl H) hD
    have env1 := (env.apart hD).same sD
    have nk := q.1.apart hD (.lst [])
    refine ⟨_, rfl, b, rfl, ⟨xs, SqL.of (sD _ _ hb)⟩, for_list (K := K) (a := b) (xs := xs) (fun i σ H1 => ∃ o1 o2, σ = [some (.ref b), some (.ref d), some (.int o), some (.ref D), o1, o2] ∧ Same H H1 ∧ EnvN (fun a => N a ∨ a = D) H1 d ks l o n ∧ NOk (fun a => N a ∨ a = D) H1 ∧ ∃ acc ys, H1 D = some (.lst acc) ∧ acc.length = i ∧ (es.map fun e => evE o e ks l).take i = ys.map .ok ∧ RepL (AtN (fun a => N a ∨ a = D) H1) acc ys)
      ⟨none, none, rfl, sD, env1, nk, [], [], upd_same, rfl, rfl, .nil⟩ (fun i σ H1 _ ⟨_, _, _, s2, _⟩ => SqL.of (s2 _ _ hb)) ?_ ?_⟩
    · rintro i y σ H1 hi ⟨o1, o2, rfl, s1, env2, nk2, acc, ys, e1, el, et, ra⟩
      obtain ⟨x, hx, rx⟩ := re.get hi
      have mx := List.mem_of_getElem? hx
      have hrx : (es.map fun e => evE o e ks l)[i]? = some (evE o x ks l) := by rw [List.getElem?_map, hx]; rfl
      refine ⟨_, rfl, _, rfl, _, rfl, _, y, x, d, ks, l, o, rfl, rx.same s1, env2, wfEs_mem wf mx, Nat.le_trans (depEs_mem mx) dp, nk2, fun t H2 s2 ht => ?_⟩
      cases ex : evE o x ks l with
      | error m =>
        rw [ex] at ht
        have hs : seqR (es.map fun e => evE o e ks l) = .error m := by
          have : (es.map fun e => evE o e ks l) = ys.map .ok ++ .error m :: (es.map fun e => evE o e ks l).drop (i + 1) := by
            rw [← et, ← ex]
            obtain ⟨h, e⟩ := List.getElem?_eq_some_iff.mp hrx
            rw [← e]
            exact (List.take_append_drop i _).symm.trans (by rw [List.drop_eq_getElem_cons h])
          rw [this, seqR_err m _ ys]
        rw [hs] at q
        exact ⟨_, rfl, t, _, 1, _, rfl, rfl, SqT.of ht.1, rfl, rfl, _, rfl, iteT ⟨_, rfl, q.2 t H2 (s1.trans s2) ⟨ht.1, fun z => ht.2 (.inl z)⟩⟩⟩
      | ok z =>
        rw [ex] at ht
        obtain ⟨u, hu, ru⟩ := ht
        have i1 : i < es.length := (List.getElem?_eq_some_iff.mp hx).1
        refine ⟨_, rfl, t, _, 1, _, rfl, rfl, SqT.of hu.1, rfl, rfl, _, rfl, iteF ⟨_, rfl, .inl ⟨rfl, acc, SqL.of (s2 _ _ e1)⟩, _, rfl, t, _, 0, _, rfl, rfl, SqT.of hu.1, rfl, D, acc, u, rfl, rfl, s2 _ _ e1, lt_line (by omega), ?_⟩⟩
        have up : ∀ a o, AtN (fun a => N a ∨ a = D) H2 a o → AtN (fun a => N a ∨ a = D) (upd H2 D (.lst (acc ++ [u]))) a o := fun a o h => ⟨by rw [upd_ne fun e => h.2 (.inr e)]; exact h.1, h.2⟩
        have env3 := env2.same s2
        refine ⟨_, _, rfl, same_mut (s1.trans s2) hD _, ⟨?_, env3.nd, env3.len, env3.ob, env3.gl, env3.dn⟩, ?_, acc ++ [u], ys ++ [z], upd_same, by simp [el], ?_, ?_⟩
        · obtain ⟨kvs, h1, h2, h3⟩ := env3.ex
          exact ⟨kvs, by rw [upd_ne fun e => env3.dn (.inr e)]; exact h1, h2, h3.mono up⟩
        · intro a ha
          by_cases e : a = D
          · rw [e, upd_same]
            simp
          · rw [upd_ne e]
            exact nk2.later s2 a ha
        · rw [take_succ_get hrx, et, ex, List.map_append]
          rfl
        · exact (((ra.sameN s2).mono up)).snoc (ru.mono up)
    · rintro σ H1 ⟨o1, o2, rfl, s1, env2, nk2, acc, ys, e1, el, et, ra⟩
      have es' : seqR (es.map fun e => evE o e ks l) = .ok ys := by
        rw [← seqR_ok, ← et, re.length, ← List.length_map (fun e => evE o e ks l), List.take_length]
      rw [es'] at q
      exact ⟨_, rfl, AnsL.good (x := .lst ys) q s1 (.lst ⟨e1, nD⟩ (ra.mono fun a u e => ⟨e.1, fun z => e.2 (.inl z)⟩))⟩
def spLBool : Sp := fun vs H Q _ => ∃ N t r, vs = [.ref t] ∧ ResAt (AtN N H) t r ∧ AnsL N H (boolR r) Q
theorem ok_l_boolean (T : Txt P w K mg a) : FnOk P w K mg base CX0 2 a.l_boolean a.l_boolean_d ["_law_found"] spLBool := by
  have G_l_kind := ok_l_kind (base := base) T
  refine T.l_boolean.F.ok sc_l_boolean (fun vs H Q E h => ?_) (fun cdv A outer s H vs Q E hr h => ?_)
  · obtain ⟨N, t, r, rfl, _⟩ := h
    rfl
  · obtain ⟨N, t, r, rfl, ht, q⟩ := h
    refine ⟨_, (pss_cons (ps_if (PW.pt (pw_and (pt_cmpR op_isN (pe_ix ix_tup (pv 0) pe_int (fun _ _ => rfl)) pe_non (nomark _)) (pw_and1 (pt_cmpR op_ne (pe_cd T.l_kind G_l_kind (hr.mono (by omega)) pass0 (pa_cons (pe_ix ix_tup (pv 0) pe_int (fun _ _ => rfl)) pa_nil)) pe_str (nomark _))))) (pss_one (ps_ret (pe_tup (pa_cons pe_non (pa_cons pe_str pa_nil))))) pss_nil)
      (pss_one (ps_ret (pv 0)))), ?_⟩
    cases r with
    | error m => exact ⟨_, rfl, t, _, 1, _, rfl, rfl, SqT.of ht.1, rfl, rfl, _, rfl, iteF (iteF ⟨_, rfl, q.2 t H (Same.refl H) ht⟩)⟩
    | ok x =>
      obtain ⟨u, hu, ru⟩ := ht
      refine ⟨_, rfl, t, _, 1, _, rfl, rfl, SqT.of hu.1, rfl, rfl, _, rfl, iteT ⟨_, rfl, t, _, 0, _, rfl, rfl, SqT.of hu.1, rfl, u, x, rfl, ru.n.rd, rfl, _, rfl, ?_⟩⟩
      cases x with
      | boo b => exact iteF ⟨_, rfl, q.2 t H (Same.refl H) ⟨u, hu, ru⟩⟩
      | _ => exact iteT (AnsL.bad (m := "not true or false") q (Same.refl H))
def spLTwo (n : Nat) : Sp := fun vs H Q _ => ∃ N p g v u x y d ks l o, vs = [.ref p, .ref d, .int o] ∧ H p = some (.tup [.str "binary", .str g, v, u]) ∧ RepE (At H) v x ∧ RepE (At H) u y ∧ EnvN N H d ks l o n ∧ wfE (.bin g x y) ks = true ∧ depE x ≤ n ∧ depE y ≤ n ∧ AnsL N H (evE o (.bin g x y) ks l) Q
theorem ok_l_two (T : Txt P w K mg a) {n k : Nat} (hk : 60 ≤ k) (G_l_eval : FnOk P w K mg base CX0 k a.l_eval a.l_eval_d ["_law_expression_here", "_law_environment_here", "_law_owner"] (spLEv n)) : FnOk P w K mg base CX0 (k + 1) a.l_two a.l_two_d ["_law_expression_here", "_law_environment_here", "_law_owner"] (spLTwo n) := by
  have G_l_boolean := ok_l_boolean (base := base) T
  have G_l_operate := ok_l_operate (base := base) T
  refine T.l_two.F.ok sc_l_two (fun vs H Q E h => ?_) (fun cdv A outer s H vs Q E hr h => ?_)
  · obtain ⟨N, p, g, v, u, x, y, d, ks, l, o, rfl, _⟩ := h
    rfl
  · obtain ⟨N, p, g, v, u, x, y, d, ks, l, o, rfl, hp, rx, ry, env, wf, dx, dy, q⟩ := h
    simp only [wfE, Bool.and_eq_true, decide_eq_true_eq] at wf
    refine ⟨_, (pss_cons (ps_set (i := 3) sc_l_two.nd rfl (Or.inl rfl) (pe_cd T.l_eval G_l_eval (hr.mono (by omega)) pass0 (pa_cons (pe_ix ix_tup (pv 0) pe_int (fun _ _ => rfl)) (pa_cons (pv 1) (pa_cons (pv 2) pa_nil)))))
      (pss_cons (ps_if (pt_cmpR op_notN (pe_ix ix_tup (pv 3) pe_int (fun _ _ => rfl)) pe_non (nomark _)) (pss_one (ps_ret (pv 3))) pss_nil)
      (pss_cons (ps_if (pt_cmpR op_in_seq (pe_ix ix_tup (pv 0) pe_int (fun _ _ => rfl)) (pe_tup (pa_cons pe_str (pa_cons pe_str pa_nil))) (by rfl)) (pss_cons (ps_set (i := 3) sc_l_two.nd rfl (Or.inl rfl) (pe_cd T.l_boolean G_l_boolean (hr.mono (by omega)) pass0 (pa_cons (pv 3) pa_nil)))
      (pss_cons (ps_if (PW.pt (pw_or (pt_cmpR op_notN (pe_ix ix_tup (pv 3) pe_int (fun _ _ => rfl)) pe_non (nomark _)) (pw_or1 (pt_cmpR op_eq (pe_ix ix_tup (pv 3) pe_int (fun _ _ => rfl)) (pe_cmpR op_eq (pe_ix ix_tup (pv 0) pe_int (fun _ _ => rfl)) pe_str (nomark _)) (nomark _))))) (pss_one (ps_ret (pv 3))) pss_nil)
      (pss_one (ps_ret (pe_cd T.l_boolean G_l_boolean (hr.mono (by omega)) pass0 (pa_cons (pe_cd T.l_eval G_l_eval (hr.mono (by omega)) pass0 (pa_cons (pe_ix ix_tup (pv 0) pe_int (fun _ _ => rfl)) (pa_cons (pv 1) (pa_cons (pv 2) pa_nil)))) pa_nil)))))) pss_nil)
      (pss_cons (ps_set (i := 4) sc_l_two.nd rfl (Or.inl rfl) (pe_cd T.l_eval G_l_eval (hr.mono (by omega)) pass0 (pa_cons (pe_ix ix_tup (pv 0) pe_int (fun _ _ => rfl)) (pa_cons (pv 1) (pa_cons (pv 2) pa_nil)))))
      (pss_cons (ps_if (pt_cmpR op_notN (pe_ix ix_tup (pv 4) pe_int (fun _ _ => rfl)) pe_non (nomark _)) (pss_one (ps_ret (pv 4))) pss_nil)
      (pss_one (ps_ret (pe_cd T.l_operate G_l_operate (hr.mono (by omega)) pass0 (pa_cons (pe_ix ix_tup (pv 0) pe_int (fun _ _ => rfl)) (pa_cons (pe_ix ix_tup (pv 3) pe_int (fun _ _ => rfl)) (pa_cons (pe_ix ix_tup (pv 4) pe_int (fun _ _ => rfl)) pa_nil))))))))))), ?_⟩
    refine ⟨_, rfl, p, _, 2, _, rfl, rfl, SqT.of hp, rfl, _, rfl, _, rfl, N, v, x, d, ks, l, o, rfl, rx, env, wf.1.2, dx, q.1, fun t H1 s1 ht => ?_⟩
    simp only [evE] at q
    cases ex : evE o x ks l with
    | error m =>
      rw [ex] at q ht
      exact ⟨_, rfl, t, _, 1, _, rfl, rfl, SqT.of ht.1, rfl, rfl, _, rfl, iteT ⟨_, rfl, q.2 t H1 s1 ht⟩⟩
    | ok z =>
      rw [ex] at q ht
      dsimp only at q
      have gz := good_evE env.ob x ks l z wf.1.2 env.gl ex
      obtain ⟨r, hr', rr⟩ := ht
      refine ⟨_, rfl, t, _, 1, _, rfl, rfl, SqT.of hr'.1, rfl, rfl, _, rfl, iteF ?_⟩
      have lgc : inV (.str g) [.str "&&", .str "||"] = isLogic g := by
        have := wf.1.1
        simp only [signs, List.mem_cons, List.not_mem_nil, or_false] at this
        rcases this with rfl | rfl | rfl | rfl | rfl | rfl | rfl | rfl | rfl | rfl | rfl | rfl <;> kernel_rfl
      refine ⟨_, rfl, p, _, 1, _, rfl, rfl, SqT.of (s1 _ _ hp), rfl, in_tup (ss := [Str.ofString "&&", Str.ofString "||"]) (neg := false) (fun Q q => q) (by show 2 ≤ 100; decide) _ lgc fun H2 s2 => ⟨_, rfl, ?_⟩⟩
      have s3 := s1.trans s2
      have second : ∀ {H3 : Hp} (Q' : VK), Same H H3 → (∀ t' H4, Same H3 H4 → ResAt (AtN N H4) t' (evE o y ks l) → Q' (.ref t') H4) → spLEv n [u, .ref d, .int o] H3 Q' E0 := fun Q' s h =>
        ⟨N, u, y, d, ks, l, o, rfl, ry.same s, env.same s, wf.2, dy, q.1.later s, h⟩
      cases lg : isLogic g with
      | true =>
        rw [if_pos lg] at q
        refine iteT ⟨_, rfl, N, t, .ok z, rfl, ⟨r, ⟨s2 _ _ hr'.1, hr'.2⟩, rr.sameN s2⟩, q.1.later s3, fun t2 H3 s4 ht2 => ?_⟩
        have s5 := s3.trans s4
        cases z with
        | boo b =>
          obtain ⟨r2, h2, rr2⟩ := ht2
          cases rr2
          have q : AnsL N H (if b = decide (g = "||") then .ok (.boo b) else (match mBool (evE o y ks l) with | .error m => .error m | .ok q => .ok (.boo q))) Q := q
          have eg : decide (V.str g = V.str "||") = decide (g = "||") := by
            by_cases c : g = "||"
            · rw [decide_eq_true c, c]
              rfl
            · rw [decide_eq_false c, decide_eq_false fun e => c (by injection e)]
          refine ⟨_, rfl, t2, _, 1, _, rfl, rfl, SqT.of h2.1, rfl, rfl, _, rfl, iteF ⟨_, rfl, t2, _, 0, _, rfl, rfl, SqT.of h2.1, rfl, _, rfl, p, _, 1, _, rfl, rfl, SqT.of (s5 _ _ hp), rfl, rfl, rfl, _, rfl, ?_⟩⟩
          by_cases c2 : b = decide (g = "||")
          · rw [if_pos c2] at q
            refine iteD ?_ ⟨_, rfl, q.2 t2 H3 s5 ⟨_, h2, .boo b⟩⟩
            rw [eg, ← c2]
            exact decide_eq_true rfl
          · rw [if_neg c2] at q
            refine iteE ?_ ?_
            · rw [eg]
              exact decide_eq_false fun e => c2 (by injection e)
            · refine ⟨_, rfl, p, _, 3, _, rfl, rfl, SqT.of (s5 _ _ hp), rfl, _, rfl, _, rfl, second _ s5 fun t3 H4 s6 ht3 => ⟨N, t3, _, rfl, ht3, AnsL.later (r := boolR (evE o y ks l)) ?_ (s5.trans s6)⟩⟩
              cases ey : evE o y ks l with
              | error m =>
                rw [ey] at q
                exact q
              | ok z2 =>
                rw [ey] at q
                cases z2 <;> exact q
        | _ => exact ⟨_, rfl, t2, _, 1, _, rfl, rfl, SqT.of ht2.1, rfl, rfl, _, rfl, iteT (iteT ⟨_, rfl, q.2 t2 H3 s5 ht2⟩)⟩
      | false =>
        rw [if_neg (by rw [lg]; exact Bool.false_ne_true)] at q
        refine iteF ⟨_, rfl, p, _, 3, _, rfl, rfl, SqT.of (s3 _ _ hp), rfl, _, rfl, _, rfl, second _ s3 fun t3 H4 s6 ht3 => ?_⟩
        have s7 := s3.trans s6
        cases ey : evE o y ks l with
        | error m =>
          rw [ey] at q ht3
          exact ⟨_, rfl, t3, _, 1, _, rfl, rfl, SqT.of ht3.1, rfl, rfl, _, rfl, iteT ⟨_, rfl, q.2 t3 H4 s7 ht3⟩⟩
        | ok z2 =>
          rw [ey] at q ht3
          have g2 := good_evE env.ob y ks l z2 wf.2 env.gl ey
          obtain ⟨r2, h2, rr2⟩ := ht3
          have s8 := s2.trans s6
          exact ⟨_, rfl, t3, _, 1, _, rfl, rfl, SqT.of h2.1, rfl, rfl, _, rfl, iteF ⟨_, rfl, p, _, 1, _, rfl, rfl, SqT.of (s7 _ _ hp), rfl, _, rfl, t, _, 0, _, rfl, rfl, SqT.of (s8 _ _ hr'.1), rfl, _, rfl, t3, _, 0, _, rfl, rfl, SqT.of h2.1, rfl,
            N, g, r, r2, z, z2, rfl, ⟨wf.1.1, lg⟩, rr.sameN s8, rr2, goodL_args (goodL_cons gz (goodL_cons g2 goodL_nil)), AnsL.later q s7⟩⟩
end
end K19
namespace K19
open PySem PySem.Spec PyProof.Rows L2
theorem sc_l_one : FnScope nm_l_one ["_law_expression_here", "_law_environment_here", "_law_owner"] (defScope s_l_one) := ⟨rfl, rfl, rfl, by decide +kernel, rfl, by decide +kernel, by decide +kernel⟩
theorem sc_l_written : FnScope nm_l_written ["_law_expression_here", "_law_environment_here", "_law_owner"] (defScope s_l_written) := ⟨rfl, rfl, rfl, by decide +kernel, rfl, by decide +kernel, by decide +kernel⟩

section
variable {P : Program} {w : World} {K : PySem.W.Frag} {mg : Str → Option Value} {base : Heap} {a : Ads}
def spLOne (n : Nat) : Sp := fun vs H Q _ => ∃ N p ex v x r d ks l o, vs = [.ref p, .ref d, .int o] ∧ PartE H p ex v x r ∧ EnvN N H d ks l o n ∧ wfE ex ks = true ∧ depE ex ≤ n + 1 ∧ AnsL N H (evE o ex ks l) Q
theorem ok_l_one (T : Txt P w K mg a) {n k : Nat} (hk : 60 ≤ k) (G_l_eval : FnOk P w K mg base CX0 k a.l_eval a.l_eval_d ["_law_expression_here", "_law_environment_here", "_law_owner"] (spLEv n)) : FnOk P w K mg base CX0 (k + 1) a.l_one a.l_one_d ["_law_expression_here", "_law_environment_here", "_law_owner"] (spLOne n) := by
  have G_l_kind := ok_l_kind (base := base) T
  have G_l_bounded := ok_l_bounded (base := base) T
  have G_l_field := ok_l_field (base := base) T
  have G_l_at := ok_l_at (base := base) T
  refine T.l_one.F.ok sc_l_one (fun vs H Q E h => ?_) (fun cdv A outer s H vs Q E hr h => ?_)
  · obtain ⟨N, p, ex, v, x, r, d, ks, l, o, rfl, _⟩ := h
    rfl
  · obtain ⟨N, p, ex, v, x, r, d, ks, l, o, rfl, pe, env, wf, dp, q⟩ := h
    refine ⟨_, (pss_cons (ps_set (i := 3) sc_l_one.nd rfl (Or.inl rfl) (pe_cd T.l_eval G_l_eval (hr.mono (by omega)) pass0 (pa_cons (pe_ix ix_tup (pv 0) pe_int (fun _ _ => rfl)) (pa_cons (pv 1) (pa_cons (pv 2) pa_nil)))))
      (pss_cons (ps_if (pt_cmpR op_notN (pe_ix ix_tup (pv 3) pe_int (fun _ _ => rfl)) pe_non (nomark _)) (pss_one (ps_ret (pv 3))) pss_nil)
      (pss_cons (ps_if (pt_cmpR op_eq (pe_ix ix_tup (pv 0) pe_int (fun _ _ => rfl)) pe_str (nomark _)) (pss_cons (ps_if (pt_cmpR op_ne (pe_cd T.l_kind G_l_kind (hr.mono (by omega)) pass0 (pa_cons (pe_ix ix_tup (pv 3) pe_int (fun _ _ => rfl)) pa_nil)) pe_str (nomark _)) (pss_one (ps_ret (pe_tup (pa_cons pe_non (pa_cons pe_str pa_nil))))) pss_nil)
      (pss_one (ps_ret (pe_tup (pa_cons (pe_not (pe_ix ix_tup (pv 3) pe_int (fun _ _ => rfl))) (pa_cons pe_non pa_nil)))))) pss_nil)
      (pss_cons (ps_if (pt_cmpR op_eq (pe_ix ix_tup (pv 0) pe_int (fun _ _ => rfl)) pe_str (nomark _)) (pss_cons (ps_if (pt_cmpR op_ne (pe_cd T.l_kind G_l_kind (hr.mono (by omega)) pass0 (pa_cons (pe_ix ix_tup (pv 3) pe_int (fun _ _ => rfl)) pa_nil)) pe_str (nomark _)) (pss_one (ps_ret (pe_tup (pa_cons pe_non (pa_cons pe_str pa_nil))))) pss_nil)
      (pss_one (ps_ret (pe_cd T.l_bounded G_l_bounded (hr.mono (by omega)) pass0 (pa_cons (pe_op op_sub pe_int (pe_ix ix_tup (pv 3) pe_int (fun _ _ => rfl))) pa_nil))))) pss_nil)
      (pss_cons (ps_if (pt_cmpR op_eq (pe_ix ix_tup (pv 0) pe_int (fun _ _ => rfl)) pe_str (nomark _)) (pss_one (ps_ret (pe_cd T.l_field G_l_field (hr.mono (by omega)) pass0 (pa_cons (pe_ix ix_tup (pv 3) pe_int (fun _ _ => rfl)) (pa_cons (pe_ix ix_tup (pv 0) pe_int (fun _ _ => rfl)) pa_nil))))) pss_nil)
      (pss_cons (ps_set (i := 4) sc_l_one.nd rfl (Or.inl rfl) (pe_cd T.l_eval G_l_eval (hr.mono (by omega)) pass0 (pa_cons (pe_ix ix_tup (pv 0) pe_int (fun _ _ => rfl)) (pa_cons (pv 1) (pa_cons (pv 2) pa_nil)))))
      (pss_cons (ps_if (pt_cmpR op_notN (pe_ix ix_tup (pv 4) pe_int (fun _ _ => rfl)) pe_non (nomark _)) (pss_one (ps_ret (pv 4))) pss_nil)
      (pss_one (ps_ret (pe_cd T.l_at G_l_at (hr.mono (by omega)) pass0 (pa_cons (pe_ix ix_tup (pv 3) pe_int (fun _ _ => rfl)) (pa_cons (pe_ix ix_tup (pv 4) pe_int (fun _ _ => rfl)) pa_nil)))))))))))), ?_⟩
    cases pe with
    | nt hp rx =>
      simp only [wfE] at wf
      simp only [depE] at dp
      simp only [evE] at q
      refine ⟨_, rfl, p, _, 1, _, rfl, rfl, SqT.of hp, rfl, _, rfl, _, rfl, N, v, x, d, ks, l, o, rfl, rx, env, wf, by omega, q.1, fun t H1 s1 ht => ?_⟩
      cases ex : evE o x ks l with
      | error m =>
        rw [ex] at q ht
        exact ⟨_, rfl, t, _, 1, _, rfl, rfl, SqT.of ht.1, rfl, rfl, _, rfl, iteT ⟨_, rfl, q.2 t H1 s1 ht⟩⟩
      | ok z =>
        rw [ex] at q ht
        obtain ⟨r, hr', rr⟩ := ht
        refine ⟨_, rfl, t, _, 1, _, rfl, rfl, SqT.of hr'.1, rfl, rfl, _, rfl, iteF ⟨_, rfl, p, _, 0, _, rfl, rfl, SqT.of (s1 _ _ hp), rfl, rfl, _, rfl, iteT ⟨_, rfl, t, _, 0, _, rfl, rfl, SqT.of hr'.1, rfl, r, z, rfl, rr.n.rd, rfl, _, rfl, ?_⟩⟩⟩
        cases z with
        | boo b =>
          cases rr
          exact iteF ⟨_, rfl, t, _, 0, _, rfl, rfl, SqT.of hr'.1, rfl, _, rfl, AnsL.good (x := .boo (!b)) q s1 (.boo _)⟩
        | _ => exact iteT (AnsL.bad (m := "not true or false") q s1)
    | neg hp rx =>
      simp only [wfE] at wf
      simp only [depE] at dp
      simp only [evE] at q
      refine ⟨_, rfl, p, _, 1, _, rfl, rfl, SqT.of hp, rfl, _, rfl, _, rfl, N, v, x, d, ks, l, o, rfl, rx, env, wf, by omega, q.1, fun t H1 s1 ht => ?_⟩
      cases ex : evE o x ks l with
      | error m =>
        rw [ex] at q ht
        exact ⟨_, rfl, t, _, 1, _, rfl, rfl, SqT.of ht.1, rfl, rfl, _, rfl, iteT ⟨_, rfl, q.2 t H1 s1 ht⟩⟩
      | ok z =>
        rw [ex] at q ht
        obtain ⟨r, hr', rr⟩ := ht
        refine ⟨_, rfl, t, _, 1, _, rfl, rfl, SqT.of hr'.1, rfl, rfl, _, rfl, iteF ⟨_, rfl, p, _, 0, _, rfl, rfl, SqT.of (s1 _ _ hp), rfl, rfl, _, rfl, iteF ⟨_, rfl, p, _, 0, _, rfl, rfl, SqT.of (s1 _ _ hp), rfl, rfl, _, rfl, iteT ⟨_, rfl, t, _, 0, _, rfl, rfl, SqT.of hr'.1, rfl, r, z, rfl, rr.n.rd, rfl, _, rfl, ?_⟩⟩⟩⟩
        cases z with
        | num i =>
          cases rr
          refine iteF ⟨_, rfl, t, _, 0, _, rfl, rfl, SqT.of hr'.1, rfl, _, _, rfl, rfl, N, _, rfl, ?_⟩
          have e : (0 : Int) - i = -i := Int.zero_sub i
          rw [e]
          exact AnsL.later (r := mNum (-i)) q s1
        | _ => exact iteT (AnsL.bad (m := "not a number") q s1)
    | fld hp rx =>
      rename_i nm
      simp only [wfE, Bool.and_eq_true, decide_eq_true_eq] at wf
      simp only [depE] at dp
      simp only [evE] at q
      refine ⟨_, rfl, p, _, 1, _, rfl, rfl, SqT.of hp, rfl, _, rfl, _, rfl, N, v, x, d, ks, l, o, rfl, rx, env, wf.1, by omega, q.1, fun t H1 s1 ht => ?_⟩
      cases ex : evE o x ks l with
      | error m =>
        rw [ex] at q ht
        exact ⟨_, rfl, t, _, 1, _, rfl, rfl, SqT.of ht.1, rfl, rfl, _, rfl, iteT ⟨_, rfl, q.2 t H1 s1 ht⟩⟩
      | ok z =>
        rw [ex] at q ht
        obtain ⟨r, hr', rr⟩ := ht
        refine ⟨_, rfl, t, _, 1, _, rfl, rfl, SqT.of hr'.1, rfl, rfl, _, rfl, iteF ⟨_, rfl, p, _, 0, _, rfl, rfl, SqT.of (s1 _ _ hp), rfl, rfl, _, rfl, iteF ⟨_, rfl, p, _, 0, _, rfl, rfl, SqT.of (s1 _ _ hp), rfl, rfl, _, rfl, iteF ?_⟩⟩⟩
        exact ⟨_, rfl, p, _, 0, _, rfl, rfl, SqT.of (s1 _ _ hp), rfl, rfl, _, rfl, iteT ⟨_, rfl, t, _, 0, _, rfl, rfl, SqT.of hr'.1, rfl, _, rfl, p, _, 2, _, rfl, rfl, SqT.of (s1 _ _ hp), rfl, N, r, z, nm, rfl, rr, by omega, AnsL.later q s1⟩⟩
    | itm hp rx ry =>
      rename_i u y
      simp only [wfE, Bool.and_eq_true, decide_eq_true_eq] at wf
      simp only [depE] at dp
      simp only [evE] at q
      refine ⟨_, rfl, p, _, 1, _, rfl, rfl, SqT.of hp, rfl, _, rfl, _, rfl, N, v, x, d, ks, l, o, rfl, rx, env, wf.1, by omega, q.1, fun t H1 s1 ht => ?_⟩
      cases ex : evE o x ks l with
      | error m =>
        rw [ex] at q ht
        exact ⟨_, rfl, t, _, 1, _, rfl, rfl, SqT.of ht.1, rfl, rfl, _, rfl, iteT ⟨_, rfl, q.2 t H1 s1 ht⟩⟩
      | ok z =>
        rw [ex] at q ht
        have gz := good_evE env.ob x ks l z wf.1 env.gl ex
        obtain ⟨r, hr', rr⟩ := ht
        refine ⟨_, rfl, t, _, 1, _, rfl, rfl, SqT.of hr'.1, rfl, rfl, _, rfl, iteF ⟨_, rfl, p, _, 0, _, rfl, rfl, SqT.of (s1 _ _ hp), rfl, rfl, _, rfl, iteF ⟨_, rfl, p, _, 0, _, rfl, rfl, SqT.of (s1 _ _ hp), rfl, rfl, _, rfl, iteF ?_⟩⟩⟩
        refine ⟨_, rfl, p, _, 0, _, rfl, rfl, SqT.of (s1 _ _ hp), rfl, rfl, _, rfl, iteF ⟨_, rfl, p, _, 2, _, rfl, rfl, SqT.of (s1 _ _ hp), rfl, _, rfl, _, rfl, N, u, y, d, ks, l, o, rfl, ry.same s1, env.same s1, wf.2, by omega, q.1.later s1, fun t2 H2 s2 ht2 => ?_⟩⟩
        cases ey : evE o y ks l with
        | error m =>
          rw [ey] at q ht2
          exact ⟨_, rfl, t2, _, 1, _, rfl, rfl, SqT.of ht2.1, rfl, rfl, _, rfl, iteT ⟨_, rfl, q.2 t2 H2 (s1.trans s2) ht2⟩⟩
        | ok z2 =>
          rw [ey] at q ht2
          obtain ⟨r2, h2, rr2⟩ := ht2
          exact ⟨_, rfl, t2, _, 1, _, rfl, rfl, SqT.of h2.1, rfl, rfl, _, rfl, iteF ⟨_, rfl, t, _, 0, _, rfl, rfl, SqT.of (s2 _ _ hr'.1), rfl, _, rfl, t2, _, 0, _, rfl, rfl, SqT.of h2.1, rfl, N, r, z, r2, z2, rfl, rr.sameN s2, rr2.n, by have := gz.2.2; omega, gz.1, AnsL.later q (s1.trans s2)⟩⟩
/-- what is written out: records, lists, calls of functions, acts -/
inductive WrE (H : Hp) : Addr → Ex → Prop
  | lst {p b : Addr} {xs : List V} {es : List Ex} : H p = some (.tup [.str "list", .ref b]) → H b = some (.lst xs) → RepEs (At H) xs es → WrE H p (.lst es)
  | rcd {p b : Addr} {ps : List V} {ks : List Str} {es : List Ex} : H p = some (.tup [.str "record", .ref b]) → H b = some (.lst ps) → RepP (At H) ps ks es → WrE H p (.rcd ks es)
  | act {p b : Addr} {n : Str} {xs : List V} {es : List Ex} : H p = some (.tup [.str "act", .str n, .ref b]) → H b = some (.lst xs) → RepEs (At H) xs es → WrE H p (.act n es)
  | fn {p b : Addr} {f : Fn} {xs : List V} {es : List Ex} : H p = some (.tup [.str "function", .str f.name, .ref b]) → H b = some (.lst xs) → RepEs (At H) xs es → WrE H p (.fn f es)
theorem RepP.seconds {R : Addr → HO → Prop} : ∀ {ps : List V} {ks : List Str} {es : List Ex}, RepP R ps ks es → ∃ us, us.length = ps.length ∧ RepEs R us es ∧ ∀ (i : Nat) (p : V), ps[i]? = some p → ∃ t k u, p = .ref t ∧ R t (.tup [.str k, u]) ∧ us[i]? = some u
  | _, _, _, .nil => ⟨[], rfl, .nil, fun i p h => by simp at h⟩
  | _, _, _, .cons (p := p) (k := k) (v := v) h g r => by
    obtain ⟨us, e1, e2, e3⟩ := r.seconds
    refine ⟨v :: us, by simp [e1], .cons g e2, fun i q hq => ?_⟩
    cases i with
    | zero =>
      simp at hq
      exact ⟨p, k, v, hq.symm, h, rfl⟩
    | succ i =>
      obtain ⟨t, k, u, a1, a2, a3⟩ := e3 i q (by simpa using hq)
      exact ⟨t, k, u, a1, a2, by simpa using a3⟩
def spLWr (n : Nat) : Sp := fun vs H Q _ => ∃ N p ex d ks l o, vs = [.ref p, .ref d, .int o] ∧ WrE H p ex ∧ EnvN N H d ks l o n ∧ wfE ex ks = true ∧ depE ex ≤ n + 1 ∧ AnsL N H (evE o ex ks l) Q
theorem ok_l_written (T : Txt P w K mg a) {n k : Nat} (hk : 60 ≤ k) (G_l_eval : FnOk P w K mg base CX0 k a.l_eval a.l_eval_d ["_law_expression_here", "_law_environment_here", "_law_owner"] (spLEv n)) : FnOk P w K mg base CX0 (k + 2) a.l_written a.l_written_d ["_law_expression_here", "_law_environment_here", "_law_owner"] (spLWr n) := by
  have G_l_all := ok_l_all (base := base) T G_l_eval
  have G_l_made := ok_l_made (base := base) T
  have G_l_call := ok_l_call (base := base) T
  refine T.l_written.F.ok sc_l_written (fun vs H Q E h => ?_) (fun cdv A outer s H vs Q E hr h => ?_)
  · obtain ⟨N, p, ex, d, ks, l, o, rfl, _⟩ := h
    rfl
  · obtain ⟨N, p, ex, d, ks, l, o, rfl, we, env, wf, dp, q⟩ := h
    refine ⟨_, (pss_cons (ps_if (pt_cmpR op_eq (pe_ix ix_tup (pv 0) pe_int (fun _ _ => rfl)) pe_str (nomark _)) (pss_one (ps_set (i := 3) sc_l_written.nd rfl (Or.inl rfl) (pe_cd T.l_all G_l_all (hr.mono (by omega)) pass0 (pa_cons (pe_lc (own := [("_law_pair", 6)]) (g := gName 6) rfl sc_l_written.nd (pi_list (pe_ix ix_tup (pv 0) pe_int (fun _ _ => rfl))) (blkOk_by (own := [("_law_pair", 6)]) (N := nm_l_written) (sc := defScope s_l_written) (by decide +kernel)) (fun _ _ _ _ _ => pg_name (i := 6) sc_l_written.nd rfl (Or.inl rfl)) (fun _ _ _ _ _ => pts_nil) (fun _ _ _ _ _ => (pe_ix (show IxR _ (rIxT K) from ix_tup) (pv 6) pe_int (fun _ _ => rfl)))) (pa_cons (pv 1) (pa_cons (pv 2) pa_nil)))))) (pss_one (ps_if (pt_cmpR op_eq (pe_ix ix_tup (pv 0) pe_int (fun _ _ => rfl)) pe_str (nomark _)) (pss_one (ps_set (i := 3) sc_l_written.nd rfl (Or.inl rfl) (pe_cd T.l_all G_l_all (hr.mono (by omega)) pass0 (pa_cons (pe_ix ix_tup (pv 0) pe_int (fun _ _ => rfl)) (pa_cons (pv 1) (pa_cons (pv 2) pa_nil)))))) (pss_one (ps_set (i := 3) sc_l_written.nd rfl (Or.inl rfl) (pe_cd T.l_all G_l_all (hr.mono (by omega)) pass0 (pa_cons (pe_ix ix_tup (pv 0) pe_int (fun _ _ => rfl)) (pa_cons (pv 1) (pa_cons (pv 2) pa_nil)))))))))
      (pss_cons (ps_if (pt_cmpR op_notN (pe_ix ix_tup (pv 3) pe_int (fun _ _ => rfl)) pe_non (nomark _)) (pss_one (ps_ret (pv 3))) pss_nil)
      (pss_cons (ps_if (pt_cmpR op_eq (pe_ix ix_tup (pv 0) pe_int (fun _ _ => rfl)) pe_str (nomark _)) (pss_one (ps_ret (pe_cd T.l_made G_l_made (hr.mono (by omega)) pass0 (pa_cons (pe_ix ix_tup (pv 3) pe_int (fun _ _ => rfl)) pa_nil)))) pss_nil)
      (pss_cons (ps_if (pt_cmpR op_eq (pe_ix ix_tup (pv 0) pe_int (fun _ _ => rfl)) pe_str (nomark _)) (pss_one (ps_ret (pe_cd T.l_call G_l_call (hr.mono (by omega)) pass0 (pa_cons (pe_ix ix_tup (pv 0) pe_int (fun _ _ => rfl)) (pa_cons (pe_ix ix_tup (pv 3) pe_int (fun _ _ => rfl)) pa_nil))))) pss_nil)
      (pss_cons (ps_if (pt_cmpR op_eq (pe_ix ix_tup (pv 0) pe_int (fun _ _ => rfl)) pe_str (nomark _)) (pss_one (ps_ret (pe_cd T.l_made G_l_made (hr.mono (by omega)) pass0 (pa_cons (pe_tup (pa_cons pe_str (pa_cons (pv 2) (pa_cons (pe_ix ix_tup (pv 0) pe_int (fun _ _ => rfl)) (pa_cons (pe_ix ix_tup (pv 3) pe_int (fun _ _ => rfl)) pa_nil))))) pa_nil)))) pss_nil)
      (pss_cons (ps_set (i := 4) sc_l_written.nd rfl (Or.inl rfl) pe_dnewK)
      (pss_cons (ps_for PassesOwn.never rfl (pi_range1 rfl T.b_range (pa_cons (pe_callB call_len_seq rfl T.b_len (by decide +kernel) (pa_cons (pe_ix ix_tup (pv 0) pe_int (fun _ _ => rfl)) pa_nil)) pa_nil)) (pg_name (i := 5) sc_l_written.nd rfl (Or.inl rfl)) (pss_one (ps_dput (hu_of hr) (pv 4) (pe_ix ix_tup (pe_ix ix_list (pe_ix ix_tup (pv 0) pe_int (fun _ _ => rfl)) (pv 5) (fun _ _ => rfl)) pe_int (fun _ _ => rfl)) (pe_ix ix_list (pe_ix ix_tup (pv 3) pe_int (fun _ _ => rfl)) (pv 5) (fun _ _ => rfl)) rfl)))
      (pss_one (ps_ret (pe_cd T.l_made G_l_made (hr.mono (by omega)) pass0 (pa_cons (pv 4) pa_nil))))))))))), ?_⟩
    cases we with
    | @lst b xs es hp hb re =>
      simp only [wfE, Bool.and_eq_true, decide_eq_true_eq] at wf
      simp only [depE] at dp
      simp only [evE] at q
      refine ⟨_, rfl, p, _, 0, _, rfl, rfl, SqT.of hp, rfl, rfl, _, rfl, iteF ⟨_, rfl, p, _, 0, _, rfl, rfl, SqT.of hp, rfl, rfl, _, rfl, iteT ⟨_, rfl, p, _, 1, _, rfl, rfl, SqT.of hp, rfl, _, rfl, _, rfl, N, b, xs, es, d, ks, l, o, rfl, hb, re, env, wf.2, by omega, by omega, q.1, fun t H1 s1 ht => ?_⟩⟩⟩
      cases ex : evEs o es ks l with
      | error m =>
        rw [ex] at q ht
        exact ⟨_, rfl, t, _, 1, _, rfl, rfl, SqT.of ht.1, rfl, rfl, _, rfl, iteT ⟨_, rfl, q.2 t H1 s1 ht⟩⟩
      | ok ys =>
        rw [ex] at q ht
        have g := good_evEs env.ob es ks l ys wf.2 env.gl ex
        have z1 := goodL_size g.1
        have z2 := goodL_depth g.1
        obtain ⟨r, hr', rr⟩ := ht
        exact ⟨_, rfl, t, _, 1, _, rfl, rfl, SqT.of hr'.1, rfl, rfl, _, rfl, iteF ⟨_, rfl, p, _, 0, _, rfl, rfl, SqT.of (s1 _ _ hp), rfl, rfl, _, rfl, iteT ⟨_, rfl, t, _, 0, _, rfl, rfl, SqT.of hr'.1, rfl, N, r, _, rfl, rr, goodL_okL g.1, by simp only [depthV]; omega, by simp only [sizeV]; omega, AnsL.later (r := mMade (.lst ys)) q s1⟩⟩⟩
    | @fn b f xs es hp hb re =>
      simp only [wfE, Bool.and_eq_true, decide_eq_true_eq] at wf
      simp only [depE] at dp
      simp only [evE] at q
      have ar : f.arity ≤ 3 := by cases f <;> decide
      refine ⟨_, rfl, p, _, 0, _, rfl, rfl, SqT.of hp, rfl, rfl, _, rfl, iteF ⟨_, rfl, p, _, 0, _, rfl, rfl, SqT.of hp, rfl, rfl, _, rfl, iteF ⟨_, rfl, p, _, 2, _, rfl, rfl, SqT.of hp, rfl, _, rfl, _, rfl, N, b, xs, es, d, ks, l, o, rfl, hb, re, env, wf.2, by omega, by omega, q.1, fun t H1 s1 ht => ?_⟩⟩⟩
      cases ex : evEs o es ks l with
      | error m =>
        rw [ex] at q ht
        exact ⟨_, rfl, t, _, 1, _, rfl, rfl, SqT.of ht.1, rfl, rfl, _, rfl, iteT ⟨_, rfl, q.2 t H1 s1 ht⟩⟩
      | ok ys =>
        rw [ex] at q ht
        have g := good_evEs env.ob es ks l ys wf.2 env.gl ex
        obtain ⟨r, hr', rr⟩ := ht
        cases rr with
        | @lst B zs _ hB rB =>
        exact ⟨_, rfl, t, _, 1, _, rfl, rfl, SqT.of hr'.1, rfl, rfl, _, rfl, iteF ⟨_, rfl, p, _, 0, _, rfl, rfl, SqT.of (s1 _ _ hp), rfl, rfl, _, rfl, iteF ⟨_, rfl, p, _, 0, _, rfl, rfl, SqT.of (s1 _ _ hp), rfl, rfl, _, rfl, iteT ⟨_, rfl, p, _, 1, _, rfl, rfl, SqT.of (s1 _ _ hp), rfl, _, rfl, t, _, 0, _, rfl, rfl, SqT.of hr'.1, rfl, N, f, B, zs, ys, rfl, hB.1, rB, goodL_args g.1, g.2.trans wf.1, AnsL.later q s1⟩⟩⟩⟩
    | @act b nm xs es hp hb re =>
      simp only [wfE, Bool.and_eq_true, decide_eq_true_eq] at wf
      simp only [depE] at dp
      simp only [evE] at q
      refine ⟨_, rfl, p, _, 0, _, rfl, rfl, SqT.of hp, rfl, rfl, _, rfl, iteF ⟨_, rfl, p, _, 0, _, rfl, rfl, SqT.of hp, rfl, rfl, _, rfl, iteF ⟨_, rfl, p, _, 2, _, rfl, rfl, SqT.of hp, rfl, _, rfl, _, rfl, N, b, xs, es, d, ks, l, o, rfl, hb, re, env, wf.2, by omega, by omega, q.1, fun t H1 s1 ht => ?_⟩⟩⟩
      cases ex : evEs o es ks l with
      | error m =>
        rw [ex] at q ht
        exact ⟨_, rfl, t, _, 1, _, rfl, rfl, SqT.of ht.1, rfl, rfl, _, rfl, iteT ⟨_, rfl, q.2 t H1 s1 ht⟩⟩
      | ok ys =>
        rw [ex] at q ht
        have g := good_evEs env.ob es ks l ys wf.2 env.gl ex
        have z1 := goodL_size g.1
        have z2 := goodL_depth g.1
        obtain ⟨r, hr', rr⟩ := ht
        have q : AnsL N H (mMade (.act o nm ys)) Q := q
        cases rr with
        | @lst B zs _ hB rB =>
        refine ⟨_, rfl, t, _, 1, _, rfl, rfl, SqT.of hr'.1, rfl, rfl, _, rfl, iteF ⟨_, rfl, p, _, 0, _, rfl, rfl, SqT.of (s1 _ _ hp), rfl, rfl, _, rfl, iteF ⟨_, rfl, p, _, 0, _, rfl, rfl, SqT.of (s1 _ _ hp), rfl, rfl, _, rfl, iteF ?_⟩⟩⟩
        refine ⟨_, rfl, p, _, 0, _, rfl, rfl, SqT.of (s1 _ _ hp), rfl, rfl, _, rfl, iteT ⟨_, rfl, _, rfl, p, _, 1, _, rfl, rfl, SqT.of (s1 _ _ hp), rfl, _, rfl, t, _, 0, _, rfl, rfl, SqT.of hr'.1, rfl, by show 4 ≤ sizeLine; decide, fun t2 ht2 => ?_⟩⟩
        have s2 := same_new ht2 (.tup [.str "act", .int o, .str nm, .ref B])
        have e : okV (.act o nm ys) = true := by
          simp only [okV, Bool.and_eq_true, decide_eq_true_eq]
          exact ⟨goodL_okL g.1, env.ob⟩
        exact ⟨N, _, _, rfl, .act ⟨upd_same, q.free s1 ht2⟩ ⟨s2 _ _ hB.1, hB.2⟩ (rB.sameN s2), e, by simp only [depthV]; omega, by simp only [sizeV]; omega, q.later (s1.trans s2)⟩
    | @rcd b ps js es hp hb re =>
      simp only [wfE, Bool.and_eq_true, decide_eq_true_eq] at wf
      simp only [depE] at dp
      simp only [evE] at q
      have lps := re.length
      obtain ⟨us, ul, ue, ug⟩ := re.seconds
      refine ⟨_, rfl, p, _, 0, _, rfl, rfl, SqT.of hp, rfl, rfl, _, rfl, iteT ?_⟩
      refine ⟨_, rfl, p, _, 1, _, rfl, rfl, SqT.of hp, rfl, b, rfl, ⟨ps, SqL.of hb⟩, fun D hD => ?_⟩
      refine lc_out (out := us) walk_list hD ul (by omega) (fun H4 s4 => s4.seq (SqL.of hb)) (fun _ => rfl) ?_ ?_
      · intro i y z H4 Q' hz' s4 hy q'
        obtain ⟨t, kk, u, rfl, ht, hu⟩ := ug i y hy
        rw [hu] at hz'
        cases hz'
        exact ⟨_, rfl, t, _, 1, _, rfl, rfl, SqT.of (s4 _ _ ht), rfl, q' H4 (Same.refl _)⟩
      · intro H1 s1 e1
        refine ⟨_, rfl, _, rfl, N, D, us, es, d, ks, l, o, rfl, e1, ue.same s1, env.same s1, wf.2, by omega, by omega, q.1.later s1, fun t H2 s2 ht => ?_⟩
        have s3 := s1.trans s2
        cases ex : evEs o es ks l with
        | error m =>
          rw [ex] at q ht
          exact ⟨_, rfl, t, _, 1, _, rfl, rfl, SqT.of ht.1, rfl, rfl, _, rfl, iteT ⟨_, rfl, q.2 t H2 s3 ht⟩⟩
        | ok ys =>
          rw [ex] at q ht
          have g := good_evEs env.ob es ks l ys wf.2 env.gl ex
          have z1 := goodL_size g.1
          have z2 := goodL_depth g.1
          obtain ⟨r, hr', rr⟩ := ht
          have q : AnsL N H (mMade (.rcd js ys)) Q := q
          cases rr with
          | @lst B zs _ hB rB =>
          have zl := rB.length
          refine ⟨_, rfl, t, _, 1, _, rfl, rfl, SqT.of hr'.1, rfl, rfl, _, rfl, iteF ⟨_, rfl, p, _, 0, _, rfl, rfl, SqT.of (s3 _ _ hp), rfl, rfl, _, rfl, iteF ⟨_, rfl, p, _, 0, _, rfl, rfl, SqT.of (s3 _ _ hp), rfl, rfl, _, rfl, iteF ⟨_, rfl, p, _, 0, _, rfl, rfl, SqT.of (s3 _ _ hp), rfl, rfl, _, rfl, iteF ?_⟩⟩⟩⟩
          intro R hR
          have sR := same_new hR (.dK [])
          refine ⟨_, rfl, p, _, 1, _, rfl, rfl, SqT.of (sR _ _ (s3 _ _ hp)), rfl, b, ps, rfl, .inl (SqL.of (sR _ _ (s3 _ _ hb))), _, rfl, ?_, ?_, ?_⟩
          · show -(2 ^ 62) ≤ ((ps.length : Nat) : Int)
            omega
          · show ((ps.length : Nat) : Int) < 2 ^ 62
            omega
          refine for_range (lo := 0) (n := ps.length) (fun i σ H3 => ∃ o1, σ = [some (.ref p), some (.ref d), some (.int o), some (.ref t), some (.ref R), o1, none] ∧ Same H2 H3 ∧ ∃ kvs, H3 R = some (.dK kvs) ∧ kvs.map (·.1) = (js.take i).map Sum.inr ∧ kvs.map (·.2) = zs.take i) ⟨none, rfl, sR, [], upd_same, rfl, rfl⟩ ?_ ?_
          · rintro i σ H3 hi ⟨o1, rfl, s4, kvs, e4, ek, ev⟩
            obtain ⟨pv, hpv⟩ := getD_some (l := ps) hi
            obtain ⟨tt, nm, u, x, rfl, htt, hk', hx, rx⟩ := re.get hpv
            obtain ⟨z, hz⟩ := getD_some (l := zs) (i := i) (by have := g.2; omega)
            have hiz : atI zs (0 + (i : Int)) = some z := by rw [Int.zero_add]; exact atI_nat hz
            have hip : atI ps (0 + (i : Int)) = some (.ref tt) := by rw [Int.zero_add]; exact atI_nat hpv
            have s5 := s3.trans s4
            have new : valV kvs (Sum.inr nm : Key) = none := by
              cases q : valV kvs (Sum.inr nm : Key) with
              | none => rfl
              | some v =>
                have m := valV_in q
                rw [ek] at m
                obtain ⟨k2, m2, e2⟩ := List.mem_map.mp m
                cases e2
                obtain ⟨i2, h2, e2⟩ := List.mem_iff_getElem.mp m2
                rw [List.length_take] at h2
                rw [List.getElem_take] at e2
                obtain ⟨h3, e3⟩ := List.getElem?_eq_some_iff.mp hk'
                have := (List.getElem_inj wf.1.1.1.1.1).mp (e2.trans e3.symm)
                omega
            have el : kvs.length ≤ 20 := by
              have := congrArg List.length ek
              simp only [List.length_map, List.length_take] at this
              omega
            refine ⟨_, rfl, t, _, 0, _, rfl, rfl, SqT.of (s4 _ _ hr'.1), rfl, _, rfl, B, zs, _, z, rfl, rfl, SqL.of (s4 _ _ hB.1), hiz, _, rfl, _, rfl, p, _, 1, _, rfl, rfl, SqT.of (s5 _ _ hp), rfl, _, rfl, b, ps, _, _, rfl, rfl, SqL.of (s5 _ _ hb), hip, tt, _, 0, _, rfl, rfl, SqT.of (s5 _ _ htt), rfl, R, _, rfl, .inl ⟨kvs, .inr nm, e4, rfl, lt_line (by omega), rfl⟩, _, rfl, same_mut s4 hR _, _, upd_same, ?_, ?_⟩
            · rw [putK_new _ new, List.map_append, ek, take_succ_get hk', List.map_append]
              rfl
            · rw [putK_new _ new, List.map_append, ev, take_succ_get hz]
              rfl
          · rintro σ H3 ⟨o1, rfl, s4, kvs, e4, ek, ev⟩
            have ek : kvs.map (·.1) = js.map Sum.inr := by rw [ek, lps.1, ← lps.2, List.take_length]
            have ev : kvs.map (·.2) = zs := by rw [ev, lps.1, ← g.2, ← zl, List.take_length]
            have e : okV (.rcd js ys) = true := by
              simp only [okV, Bool.and_eq_true, decide_eq_true_eq]
              exact ⟨⟨⟨⟨wf.1.1.1.1.1, by rw [g.2]; exact wf.1.1.1.1.2⟩, by omega⟩, wf.1.1.2⟩, goodL_okL g.1⟩
            have := wf.1.2
            exact ⟨_, rfl, N, _, _, rfl, .rcd ⟨e4, q.free s3 hR⟩ ek (by rw [ev]; exact rB.sameN s4), e, by simp only [depthV]; omega, by simp only [sizeV]; omega, q.later (s3.trans s4)⟩
end
end K19
namespace K19
open PySem PySem.Spec PyProof.Rows L2
theorem sc_l_gathered : FnScope nm_l_gathered ["_law_expression_here", "_law_environment_here", "_law_owner"] (defScope s_l_gathered) := ⟨rfl, rfl, rfl, by decide +kernel, rfl, by decide +kernel, by decide +kernel⟩

theorem EnvN.more {N : Addr → Prop} {H H6 : Hp} {d I : Addr} {ks : List Str} {l : List Val} {o : Int} {n : Nat} {nm : Str} {v : V} {m : Val} {kvs : List (Key × V)} (h : EnvN N H d ks l o (n + 1)) (hd : H d = some (.dK kvs)) (s : Same H H6) (e : H6 I = some (.dK (kvs ++ [(Sum.inr nm, v)]))) (hs : nm ∉ ks) (rv : Rep (AtN N H6) v m) (gm : good m) (nI : ¬ N I) :
    EnvN N H6 I (ks ++ [nm]) (l ++ [m]) o n := by
  obtain ⟨kvs', e1, e2, e3⟩ := h.ex
  rw [hd] at e1
  cases e1
  have hl := h.len
  refine ⟨⟨_, e, ?_, ?_⟩, ?_, ?_, h.ob, goodL_snoc h.gl gm, nI⟩
  · rw [List.map_append, List.map_append, e2]
    rfl
  · rw [List.map_append]
    exact (e3.sameN s).snoc rv
  · rw [List.nodup_append]
    exact ⟨h.nd, by simp, fun a ha b hb e => by
      rw [List.mem_singleton.mp hb] at e
      exact hs (e ▸ ha)⟩
  · rw [List.length_append]
    show ks.length + 1 + n ≤ 200
    omega
section
variable {P : Program} {w : World} {K : PySem.W.Frag} {mg : Str → Option Value} {base : Heap} {a : Ads}
def spLGat (n : Nat) : Sp := fun vs H Q _ => ∃ N p ex v s u t x y c d ks l o, vs = [.ref p, .ref d, .int o] ∧ GatE H p ex v s u t x y c ∧ EnvN N H d ks l o (n + 1) ∧ wfE ex ks = true ∧ depE ex ≤ n + 1 ∧ AnsL N H (evE o ex ks l) Q
theorem ok_l_gathered (T : Txt P w K mg a) {n k : Nat} (hk : 60 ≤ k) (G_l_eval : FnOk P w K mg base CX0 k a.l_eval a.l_eval_d ["_law_expression_here", "_law_environment_here", "_law_owner"] (spLEv n)) : FnOk P w K mg base CX0 (k + 1) a.l_gathered a.l_gathered_d ["_law_expression_here", "_law_environment_here", "_law_owner"] (spLGat n) := by
  have G_l_boolean := ok_l_boolean (base := base) T
  have G_l_kind := ok_l_kind (base := base) T
  have G_l_made := ok_l_made (base := base) T
  refine T.l_gathered.F.ok sc_l_gathered (fun vs H Q E h => ?_) (fun cdv A outer s H vs Q E hr h => ?_)
  · obtain ⟨N, p, ex, v, s, u, t, x, y, c, d, ks, l, o, rfl, _⟩ := h
    rfl
  · obtain ⟨N, p, ex, v, nm, u, tc, x, y, c, d, ks, l, o, rfl, ge, env, wf, dp, q⟩ := h
    refine ⟨_, (pss_cons (ps_set (i := 3) sc_l_gathered.nd rfl (Or.inl rfl) (pe_cd T.l_eval G_l_eval (hr.mono (by omega)) pass0 (pa_cons (pe_ix ix_tup (pv 0) pe_int (fun _ _ => rfl)) (pa_cons (pv 1) (pa_cons (pv 2) pa_nil)))))
      (pss_cons (ps_if (pt_cmpR op_notN (pe_ix ix_tup (pv 3) pe_int (fun _ _ => rfl)) pe_non (nomark _)) (pss_one (ps_ret (pv 3))) pss_nil)
      (pss_cons (ps_if (pt_cmpR op_ne (pe_cd T.l_kind G_l_kind (hr.mono (by omega)) pass0 (pa_cons (pe_ix ix_tup (pv 3) pe_int (fun _ _ => rfl)) pa_nil)) pe_str (nomark _)) (pss_one (ps_ret (pe_tup (pa_cons pe_non (pa_cons pe_str pa_nil))))) pss_nil)
      (pss_cons (ps_set (i := 4) sc_l_gathered.nd rfl (Or.inl rfl) (pe_lst pa_nil))
      (pss_cons (ps_for PassesOwn.never rfl (pi_list (pe_ix ix_tup (pv 3) pe_int (fun _ _ => rfl))) (pg_name (i := 5) sc_l_gathered.nd rfl (Or.inl rfl)) (pss_cons (ps_set (i := 6) sc_l_gathered.nd rfl (Or.inl rfl) pe_dnewK)
      (pss_cons (ps_lock (ps_for PassesOwn.never rfl (pi_keys (pv 1)) (pg_name (i := 7) sc_l_gathered.nd rfl (Or.inl rfl)) (pss_one (ps_dput (hu_of hr) (pv 6) (pv 7) (pe_dget (hu_of hr) (pv 1) (pv 7) (fun _ _ => rfl)) rfl))))
      (pss_cons (ps_dput (hu_of hr) (pv 6) (pe_ix ix_tup (pv 0) pe_int (fun _ _ => rfl)) (pv 5) rfl)
      (pss_cons (ps_set (i := 8) sc_l_gathered.nd rfl (Or.inl rfl) (pe_tup (pa_cons pe_bl (pa_cons pe_non pa_nil))))
      (pss_cons (ps_if (pt_cmpR op_notN (pe_ix ix_tup (pv 0) pe_int (fun _ _ => rfl)) pe_non (nomark _)) (pss_one (ps_set (i := 8) sc_l_gathered.nd rfl (Or.inl rfl) (pe_cd T.l_boolean G_l_boolean (hr.mono (by omega)) pass0 (pa_cons (pe_cd T.l_eval G_l_eval (hr.mono (by omega)) pass0 (pa_cons (pe_ix ix_tup (pv 0) pe_int (fun _ _ => rfl)) (pa_cons (pv 6) (pa_cons (pv 2) pa_nil)))) pa_nil)))) pss_nil)
      (pss_cons (ps_if (pt_cmpR op_notN (pe_ix ix_tup (pv 8) pe_int (fun _ _ => rfl)) pe_non (nomark _)) (pss_one (ps_ret (pv 8))) pss_nil)
      (pss_one (ps_if (pt_val (pe_ix ix_tup (pv 8) pe_int (fun _ _ => rfl))) (pss_cons (ps_set (i := 9) sc_l_gathered.nd rfl (Or.inl rfl) (pe_cd T.l_eval G_l_eval (hr.mono (by omega)) pass0 (pa_cons (pe_ix ix_tup (pv 0) pe_int (fun _ _ => rfl)) (pa_cons (pv 6) (pa_cons (pv 2) pa_nil)))))
      (pss_cons (ps_if (pt_cmpR op_notN (pe_ix ix_tup (pv 9) pe_int (fun _ _ => rfl)) pe_non (nomark _)) (pss_one (ps_ret (pv 9))) pss_nil)
      (pss_one (ps_expr (pe_bm PySem.F.plainAttrs_list PySem.F.slot_list_append PySem.F.type_list_append mt_append (pv 4) (pa_cons (pe_ix ix_tup (pv 9) pe_int (fun _ _ => rfl)) pa_nil)))))) pss_nil)))))))))
      (pss_one (ps_ret (pe_cd T.l_made G_l_made (hr.mono (by omega)) pass0 (pa_cons (pv 4) pa_nil))))))))), ?_⟩
    have hp := ge.at_
    have rx := ge.x_
    have ry := ge.y_
    obtain ⟨w1, w2, w3, w4⟩ := ge.wf wf
    obtain ⟨d1, d2, d3⟩ := ge.dep dp
    rw [ge.ev] at q
    refine ⟨_, rfl, p, _, 3, _, rfl, rfl, SqT.of hp, rfl, _, rfl, _, rfl, N, u, y, d, ks, l, o, rfl, ry, env.down (Nat.le_succ n), w3, d2, q.1, fun t H1 s1 ht => ?_⟩
    cases ey : evE o y ks l with
    | error m =>
      rw [ey] at q ht
      exact ⟨_, rfl, t, _, 1, _, rfl, rfl, SqT.of ht.1, rfl, rfl, _, rfl, iteT ⟨_, rfl, q.2 t H1 s1 ht⟩⟩
    | ok z =>
      rw [ey] at q ht
      have gz := good_evE env.ob y ks l z w3 env.gl ey
      obtain ⟨r, hr', rr⟩ := ht
      refine ⟨_, rfl, t, _, 1, _, rfl, rfl, SqT.of hr'.1, rfl, rfl, _, rfl, iteF ⟨_, rfl, t, _, 0, _, rfl, rfl, SqT.of hr'.1, rfl, r, z, rfl, rr.n.rd, rfl, _, rfl, ?_⟩⟩
      cases z with
      | lst ms =>
        dsimp only at q
        cases rr with
        | @lst B xs _ hB rB =>
        have lB := rB.length
        have zB := sizeL_len ms
        have z3 := gz.2.2
        simp only [sizeV] at z3
        refine iteF ⟨Nat.zero_le _, fun D hD => ?_⟩
        have sD := same_new hD (.lst [])
        have nD : ¬ N D := AnsL.free q s1 hD
        have nk := (q.1.later s1).apart hD (.lst [])
        have env1 := (env.same s1).apart hD
        have rB1 : RepL (AtN (fun a => N a ∨ a = D) H1) xs ms := rB.mono fun a u e => ⟨e.1, fun z => z.elim e.2 fun z => by have e1 := e.1; rw [z, hD] at e1; cases e1⟩
        refine ⟨_, rfl, t, _, 0, _, rfl, rfl, SqT.of (sD _ _ hr'.1), rfl, B, rfl, ⟨xs, SqL.of (sD _ _ hB.1)⟩, for_list (K := K) (a := B) (xs := xs) (fun i σ H2 => ∃ o5 o6 o7 o8 o9, σ = [some (.ref p), some (.ref d), some (.int o), some (.ref t), some (.ref D), o5, o6, o7, o8, o9] ∧ Same H1 H2 ∧ NOk (fun a => N a ∨ a = D) H2 ∧ ∃ acc ys, H2 D = some (.lst acc) ∧ acc.length ≤ i ∧ gath (turn o x c (ks ++ [nm]) l) (ms.take i) = .ok ys ∧ RepL (AtN (fun a => N a ∨ a = D) H2) acc ys)
          ⟨none, none, none, none, none, rfl, sD, nk, [], [], upd_same, Nat.le_refl _, rfl, .nil⟩ (fun i σ H2 _ ⟨_, _, _, _, _, _, s2, _⟩ => SqL.of (s2 _ _ hB.1)) ?_ ?_⟩
        · rintro i m σ H2 hi ⟨o5, o6, o7, o8, o9, rfl, s2, nk2, acc, ys, eD, el, et, ra⟩
          obtain ⟨mv, hm, rm⟩ := rB1.get hi
          have gm : good mv := good_part gz (List.mem_of_getElem? hm)
          intro I hI
          have env2 := env1.same s2
          obtain ⟨kvs, e1, e2, e3⟩ := env2.ex
          have neI : I ≠ d := fun e => by
            rw [e, e1] at hI
            cases hI
          refine ⟨d, _, (upd_ne neI.symm).trans e1, trivial, fun od => ?_⟩
          refine ⟨_, rfl, d, od, rfl, .inl ⟨kvs, upd_same, ?_⟩⟩
          have hI2 : (upd H2 d (.frz od (.dK kvs))) I = none := (upd_ne neI).trans hI
          have lk : kvs.length ≤ 200 := by
            have := congrArg List.length e2
            simp only [List.length_map] at this
            have := env.len
            omega
          have ndk := nd_keys e2 env.nd
          refine for_it walk_keys (fun j σ H3 => ∃ o7, σ = [some (.ref p), some (.ref d), some (.int o), some (.ref t), some (.ref D), some m, some (.ref I), o7, o8, o9] ∧ Same (upd H2 d (.frz od (.dK kvs))) H3 ∧ H3 I = some (.dK (kvs.take j))) ⟨o7, rfl, ?_, ?_⟩ (fun i σ H3 _ ⟨_, _, s3, _⟩ => s3 _ _ upd_same) ?_ ?_
          · intro b u hb
            by_cases hbd : b = d
            · subst hbd
              rw [upd_same] at hb ⊢
              exact hb
            · rw [upd_ne hbd] at hb ⊢
              exact same_new hI _ _ _ hb
          · rw [upd_ne neI, upd_same]
            rfl
          · rintro j nmv σ H3 H4 hj ⟨o7, rfl, s3, e4⟩ ⟨rfl, k', v', hk, rfl⟩
            refine ⟨_, rfl, _, rfl, d, v', rfl, .inl ⟨kvs, k', .inr ⟨od, s3 _ _ upd_same⟩, rfl, (valV_at ndk hk).symm⟩, _, rfl, _, rfl, I, _, rfl, .inl ⟨_, k', e4, rfl, lt_line (by rw [List.length_take]; omega), rfl⟩, _, rfl, same_mut s3 hI2 _, ?_⟩
            have new : valV (kvs.take j) k' = none := by
              cases q : valV (kvs.take j) k' with
              | none => rfl
              | some v =>
                obtain ⟨i2, h2⟩ := valV_get q
                have h3 : i2 < j := by
                  have := (List.getElem?_eq_some_iff.mp h2).1
                  rw [List.length_take] at this
                  omega
                rw [List.getElem?_take_of_lt h3] at h2
                have a1 : (kvs.map (·.1))[i2]? = some k' := by rw [List.getElem?_map, h2]; rfl
                have a2 : (kvs.map (·.1))[j]? = some k' := by rw [List.getElem?_map, hk]; rfl
                obtain ⟨b1, c1⟩ := List.getElem?_eq_some_iff.mp a1
                obtain ⟨b2, c2⟩ := List.getElem?_eq_some_iff.mp a2
                have := (List.getElem_inj ndk).mp (c1.trans c2.symm)
                omega
            rw [upd_same, putK_new _ new, take_succ_get hk]
          · rintro σ H3 ⟨o7, rfl, s3, e4⟩
            refine ⟨s3 _ _ upd_same, ?_⟩
            have s4 := unlock_same e1 s3
            have e5 : (upd H3 d (.dK kvs)) I = some (.dK kvs) := by
              rw [upd_ne neI, e4, List.take_length]
            generalize upd H3 d (.dK kvs) = H4 at s4 e5
            have s24 := s2.trans s4
            have new : valV kvs (Sum.inr nm : Key) = none := by
              cases q : valV kvs (Sum.inr nm : Key) with
              | none => rfl
              | some u =>
                have m := valV_in q
                rw [e2] at m
                obtain ⟨k2, m2, e⟩ := List.mem_map.mp m
                cases e
                exact absurd m2 w1
            have s5 : Same H2 (upd H4 I (.dK (kvs ++ [(Sum.inr nm, m)]))) := same_mut s4 hI _
            have nI : ¬ (N I ∨ I = D) := fun z => nk2 I z hI
            have env3 := env2.more e1 s5 upd_same w1 ((rm.sameN s2).sameN s5) gm nI
            refine ⟨_, rfl, _, rfl, _, rfl, p, _, 2, _, rfl, rfl, SqT.of (s24 _ _ (s1 _ _ hp)), rfl, I, _, rfl, .inl ⟨kvs, .inr nm, e5, rfl, lt_line (by omega), rfl⟩, ?_⟩
            rw [putK_new _ new]
            generalize upd H4 I (.dK (kvs ++ [(Sum.inr nm, m)])) = H6 at s5 env3 ⊢
            refine ⟨by show 2 ≤ sizeLine; decide, fun W hW => ?_⟩
            have sW := same_new hW (.tup [.bl true, .non])
            have s6 := s5.trans sW
            have bad : ∀ e, turn o x c (ks ++ [nm]) l mv = .error e → AnsL N H (.error e) Q := by
              intro e he
              obtain ⟨hlt, he2⟩ := List.getElem?_eq_some_iff.mp hm
              have : ms = ms.take i ++ mv :: ms.drop (i + 1) := by
                rw [← he2]
                exact (List.take_append_drop i _).symm.trans (by rw [List.drop_eq_getElem_cons hlt])
              rw [this, gath_err _ _ he _ _ et] at q
              exact q
            have i200 : i < ms.length := (List.getElem?_eq_some_iff.mp hm).1
            have rest : ∀ (DD : Ends) (H8 : Hp) (W : Addr) (b : Bool), Same H6 H8 → H8 W = some (.tup [.bl b, .non]) → (b = true → turn o x c (ks ++ [nm]) l mv = someR (evE o x (ks ++ [nm]) (l ++ [mv]))) → (b = false → turn o x c (ks ++ [nm]) l mv = .ok none) → DD.rt = Q →
                (∀ σ H9, (∃ o5 o6 o7 o8 o9, σ = [some (.ref p), some (.ref d), some (.int o), some (.ref t), some (.ref D), o5, o6, o7, o8, o9] ∧ Same H1 H9 ∧ NOk (fun a => N a ∨ a = D) H9 ∧ ∃ acc ys, H9 D = some (.lst acc) ∧ acc.length ≤ i + 1 ∧ gath (turn o x c (ks ++ [nm]) l) (ms.take (i + 1)) = .ok ys ∧ RepL (AtN (fun a => N a ∨ a = D) H9) acc ys) → DD.nx σ H9) →
                tSeq (tIfS (tTest (tOp (fun x y H Q => y = V.non ∧ Q (V.bl !decide (x = V.non)) H) (tOp (rIxT K) (tVar 8) (tC (V.int 1))) (tC V.non))) (tRet (tVar 8)) tNext)
                  (tIfS (tB (tOp (rIxT K) (tVar 8) (tC (V.int 0)))) (tSeq (tAsg (tCall (spLEv n) [] E0 (tCons (tOp (rIxT K) (tVar 0) (tC (V.int 1))) (tCons (tVar 6) (tCons (tVar 2) tNil)))) (gName 9))
                    (tSeq (tIfS (tTest (tOp (fun x y H Q => y = V.non ∧ Q (V.bl !decide (x = V.non)) H) (tOp (rIxT K) (tVar 9) (tC (V.int 1))) (tC V.non))) (tRet (tVar 9)) tNext) (tDrop (tBM K "list" rAppend (tVar 4) (tCons (tOp (rIxT K) (tVar 9) (tC (V.int 0))) tNil))))) tNext)
                  DD [some (V.ref p), some (V.ref d), some (V.int o), some (V.ref t), some (V.ref D), some m, some (V.ref I), o7, some (.ref W), o9] H8 := by
              intro DD H8 W b s8 hW8 ht1 ht0 hrt nx
              have s28 := s5.trans s8
              have s18 := s2.trans s28
              refine ⟨_, rfl, W, _, 1, _, rfl, rfl, SqT.of hW8, rfl, rfl, _, rfl, iteF ⟨_, rfl, W, _, 0, _, rfl, rfl, SqT.of hW8, rfl, _, rfl, ?_⟩⟩
              cases b with
              | false =>
                refine iteF (nx _ _ ⟨_, _, _, _, _, rfl, s18, nk2.later s28, acc, ys, s28 _ _ eD, by omega, ?_, ra.sameN s28⟩)
                rw [take_succ_get hm, gath_snoc _ _ _ _ et, ht0 rfl]
                show Except.ok (ys ++ []) = _
                rw [List.append_nil]
              | true =>
                have htt := ht1 rfl
                refine iteT ⟨_, rfl, p, _, 1, _, rfl, rfl, SqT.of (s18 _ _ (s1 _ _ hp)), rfl, _, rfl, _, rfl, _, v, x, I, ks ++ [nm], l ++ [mv], o, rfl, (rx.same s1).same s18, env3.same s8, w2, d1, nk2.later s28, fun t9 H9 s9 ht9 => ?_⟩
                cases ee : evE o x (ks ++ [nm]) (l ++ [mv]) with
                | error e =>
                  rw [ee] at ht9
                  have := bad e (by rw [htt, ee]; rfl)
                  refine ⟨_, rfl, t9, _, 1, _, rfl, rfl, SqT.of ht9.1, rfl, rfl, _, rfl, iteT ⟨_, rfl, ?_⟩⟩
                  show DD.rt _ _
                  rw [hrt]
                  exact this.2 t9 H9 ((s1.trans s18).trans s9) ⟨ht9.1, fun z => ht9.2 (.inl z)⟩
                | ok z =>
                  rw [ee] at ht9
                  obtain ⟨r9, h9, rr9⟩ := ht9
                  have s29 := s28.trans s9
                  refine ⟨_, rfl, t9, _, 1, _, rfl, rfl, SqT.of h9.1, rfl, rfl, _, rfl, iteF ⟨_, rfl, .inl ⟨rfl, acc, SqL.of (s29 _ _ eD)⟩, _, rfl, t9, _, 0, _, rfl, rfl, SqT.of h9.1, rfl, D, acc, r9, rfl, rfl, s29 _ _ eD, lt_line (by omega), nx _ _ ?_⟩⟩
                  have up : ∀ a u, AtN (fun a => N a ∨ a = D) H9 a u → AtN (fun a => N a ∨ a = D) (upd H9 D (.lst (acc ++ [r9]))) a u := fun a u h => ⟨by rw [upd_ne fun e => h.2 (.inr e)]; exact h.1, h.2⟩
                  refine ⟨_, _, _, _, _, rfl, same_mut (s18.trans s9) hD _, ?_, acc ++ [r9], ys ++ [z], upd_same, by simp; omega, ?_, (((ra.sameN s29).mono up)).snoc (rr9.mono up)⟩
                  · intro a ha
                    by_cases e : a = D
                    · rw [e, upd_same]
                      simp
                    · rw [upd_ne e]
                      exact nk2.later s29 a ha
                  · rw [take_succ_get hm, gath_snoc _ _ _ _ et, htt, ee]
                    rfl
            have s1W := s2.trans s6
            rcases ge.c_ with ⟨ec, et'⟩ | ⟨z, ec, rc⟩
            · subst ec et'
              refine ⟨_, rfl, p, _, 4, _, rfl, rfl, SqT.of (s1W _ _ (s1 _ _ hp)), rfl, rfl, _, rfl, iteF ?_⟩
              exact rest _ _ W true sW upd_same (fun _ => rfl) (fun e => by cases e) rfl fun σ H9 h => h
            · subst ec
              have tn : tc ≠ .non := fun e => by
                rw [e] at rc
                cases rc
              refine ⟨_, rfl, p, _, 4, _, rfl, rfl, SqT.of (s1W _ _ (s1 _ _ hp)), rfl, rfl, _, rfl, iteD (by rw [decide_eq_false tn]; rfl) ?_⟩
              refine ⟨_, rfl, p, _, 4, _, rfl, rfl, SqT.of (s1W _ _ (s1 _ _ hp)), rfl, _, rfl, _, rfl, _, tc, z, I, ks ++ [nm], l ++ [mv], o, rfl, (rc.same s1).same s1W, env3.same sW, w4 z rfl, d3 z rfl, nk2.later s6, fun t7 H7 s7 ht7 => ?_⟩
              refine ⟨_, t7, _, rfl, ht7, (nk2.later s6).later s7, fun t8 H8 s8 ht8 => ?_⟩
              have s68 := (sW.trans s7).trans s8
              have s18 := s2.trans (s5.trans s68)
              cases ee : evE o z (ks ++ [nm]) (l ++ [mv]) with
              | error e =>
                rw [ee] at ht8
                have := bad e (by simp only [turn, ee]; rfl)
                exact ⟨_, rfl, t8, _, 1, _, rfl, rfl, SqT.of ht8.1, rfl, rfl, _, rfl, iteT ⟨_, rfl, this.2 t8 H8 (s1.trans s18) ⟨ht8.1, fun z => ht8.2 (.inl z)⟩⟩⟩
              | ok zz =>
                rw [ee] at ht8
                cases zz with
                | boo b =>
                  obtain ⟨r8, h8, rr8⟩ := ht8
                  cases rr8
                  exact rest _ _ t8 b s68 h8.1 (fun e => by simp only [turn, ee, e]; rfl) (fun e => by simp only [turn, ee, e]; rfl) rfl fun σ H9 h => h
                | _ =>
                  have := bad "not true or false" (by simp only [turn, ee]; rfl)
                  exact ⟨_, rfl, t8, _, 1, _, rfl, rfl, SqT.of ht8.1, rfl, rfl, _, rfl, iteT ⟨_, rfl, this.2 t8 H8 (s1.trans s18) ⟨ht8.1, fun z => ht8.2 (.inl z)⟩⟩⟩
        · rintro σ H2 ⟨o5, o6, o7, o8, o9, rfl, s2, nk2, acc, ys, eD, el, et, ra⟩
          rw [lB, List.take_length] at et
          rw [et] at q
          have q : AnsL N H (mMade (.lst ys)) Q := q
          have gg := gath_good (fun m hm v hv => by
            unfold turn at hv
            cases c with
            | none => exact good_evE env.ob x (ks ++ [nm]) (l ++ [m]) v w2 (goodL_snoc env.gl (good_part gz hm)) (someR_some hv)
            | some c =>
              dsimp only at hv
              split at hv
              · cases hv
              · exact good_evE env.ob x (ks ++ [nm]) (l ++ [m]) v w2 (goodL_snoc env.gl (good_part gz hm)) (someR_some hv)
              · cases hv) et
          have y1 := goodL_size gg.1
          have y2 := goodL_depth gg.1
          have y3 : 2001 * ys.length ≤ 2001 * 2001 := Nat.mul_le_mul_left _ (by have := gg.2; omega)
          exact ⟨_, rfl, N, _, _, rfl, .lst ⟨eD, nD⟩ (ra.mono fun a u e => ⟨e.1, fun z => e.2 (.inl z)⟩), goodL_okL gg.1, by simp only [depthV]; omega, by simp only [sizeV]; omega, q.later (s1.trans s2)⟩
      | _ => exact iteT (AnsL.bad (m := "not a list") q s1)
end
end K19
namespace K19
open PySem PySem.Spec PyProof.Rows L2
theorem sc_l_eval : FnScope nm_l_eval ["_law_expression_here", "_law_environment_here", "_law_owner"] (defScope s_l_eval) := ⟨rfl, rfl, rfl, by decide +kernel, rfl, by decide +kernel, by decide +kernel⟩

theorem AnsL.mk2 {N : Addr → Prop} {H H1 : Hp} {m : Str} {Q : VK} (q : AnsL N H (.error m) Q) (s : Same H H1) {t : Addr} (h : ResAt (AtN N H1) t (.error m)) : Q (.ref t) H1 := q.2 t H1 s h
section
variable {P : Program} {w : World} {K : PySem.W.Frag} {mg : Str → Option Value} {base : Heap} {a : Ads}
theorem ok_l_eval (T : Txt P w K mg a) : ∀ n : Nat, FnOk P w K mg base CX0 (60 + 3 * n) a.l_eval a.l_eval_d ["_law_expression_here", "_law_environment_here", "_law_owner"] (spLEv n)
  | 0 => fn_none fun vs H Q E h => by
    obtain ⟨N, e, ex, _, _, _, _, _, _, _, _, h, _⟩ := h
    have := depE_pos ex
    omega
  | n + 1 => by
    have G_l_eval := ok_l_eval T n
    have G_l_boolean := ok_l_boolean (base := base) T
    have G_l_two := ok_l_two (base := base) T (by omega) G_l_eval
    have G_l_one := ok_l_one (base := base) T (by omega) G_l_eval
    have G_l_written := ok_l_written (base := base) T (by omega) G_l_eval
    have G_l_gathered := ok_l_gathered (base := base) T (by omega) G_l_eval
    have ek : 60 + 3 * (n + 1) = (62 + 3 * n) + 1 := by omega
    rw [ek]
    refine T.l_eval.F.ok sc_l_eval (fun vs H Q E h => ?_) (fun cdv A outer s H vs Q E hr h => ?_)
    · obtain ⟨N, e, ex, d, ks, l, o, rfl, _⟩ := h
      rfl
    · obtain ⟨N, e, ex, d, ks, l, o, rfl, re, env, wf, dp, q⟩ := h
      have env' : EnvN N H d ks l o n := env.down (Nat.le_succ n)
      refine ⟨_, (pss_cons (ps_set (i := 3) sc_l_eval.nd rfl (Or.inl rfl) (pe_ix ix_tup (pv 0) pe_int (fun _ _ => rfl)))
      (pss_cons (ps_if (pt_cmpR op_eq (pv 3) pe_str (nomark _)) (pss_one (ps_ret (pe_tup (pa_cons pe_non (pa_cons pe_non pa_nil))))) pss_nil)
      (pss_cons (ps_if (pt_cmpR op_in_seq (pv 3) (pe_tup (pa_cons pe_str (pa_cons pe_str pa_nil))) (by rfl)) (pss_one (ps_ret (pe_tup (pa_cons (pe_cmpR op_eq (pv 3) pe_str (nomark _)) (pa_cons pe_non pa_nil))))) pss_nil)
      (pss_cons (ps_if (pt_cmpR op_in_seq (pv 3) (pe_tup (pa_cons pe_str (pa_cons pe_str pa_nil))) (by rfl)) (pss_one (ps_ret (pe_tup (pa_cons (pe_ix ix_tup (pv 0) pe_int (fun _ _ => rfl)) (pa_cons pe_non pa_nil))))) pss_nil)
      (pss_cons (ps_if (pt_cmpR op_eq (pv 3) pe_str (nomark _)) (pss_one (ps_ret (pe_tup (pa_cons (pe_dget (hu_of hr) (pv 1) (pe_ix ix_tup (pv 0) pe_int (fun _ _ => rfl)) (fun _ _ => rfl)) (pa_cons pe_non pa_nil))))) pss_nil)
      (pss_cons (ps_if (pt_cmpR op_eq (pv 3) pe_str (nomark _)) (pss_one (ps_ret (pe_cd T.l_two G_l_two (hr.mono (by omega)) pass0 (pa_cons (pv 0) (pa_cons (pv 1) (pa_cons (pv 2) pa_nil)))))) pss_nil)
      (pss_cons (ps_if (pt_cmpR op_eq (pv 3) pe_str (nomark _)) (pss_cons (ps_set (i := 4) sc_l_eval.nd rfl (Or.inl rfl) (pe_cd T.l_boolean G_l_boolean (hr.mono (by omega)) pass0 (pa_cons (pe_cd T.l_eval G_l_eval (hr.mono (by omega)) pass0 (pa_cons (pe_ix ix_tup (pv 0) pe_int (fun _ _ => rfl)) (pa_cons (pv 1) (pa_cons (pv 2) pa_nil)))) pa_nil)))
      (pss_cons (ps_if (pt_cmpR op_notN (pe_ix ix_tup (pv 4) pe_int (fun _ _ => rfl)) pe_non (nomark _)) (pss_one (ps_ret (pv 4))) pss_nil)
      (pss_one (ps_ret (pe_cd T.l_eval G_l_eval (hr.mono (by omega)) pass0 (pa_cons (pe_ix ix_tup (pv 0) (pe_ix ix_tup (pe_tup (pa_cons pe_int (pa_cons pe_int pa_nil))) (pe_callTy call_int1 rfl T.b_int (by decide +kernel) (pa_cons (pe_ix ix_tup (pv 4) pe_int (fun _ _ => rfl)) pa_nil)) (fun _ _ => rfl)) (fun _ _ => rfl)) (pa_cons (pv 1) (pa_cons (pv 2) pa_nil)))))))) pss_nil)
      (pss_cons (ps_if (pt_cmpR op_eq (pv 3) pe_str (nomark _)) (pss_one (ps_ret (pe_cd T.l_gathered G_l_gathered (hr.mono (by omega)) pass0 (pa_cons (pv 0) (pa_cons (pv 1) (pa_cons (pv 2) pa_nil)))))) pss_nil)
      (pss_cons (ps_if (pt_cmpR op_in_seq (pv 3) (pe_tup (pa_cons pe_str (pa_cons pe_str (pa_cons pe_str (pa_cons pe_str pa_nil))))) (by rfl)) (pss_one (ps_ret (pe_cd T.l_written G_l_written (hr.mono (by omega)) pass0 (pa_cons (pv 0) (pa_cons (pv 1) (pa_cons (pv 2) pa_nil)))))) pss_nil)
      (pss_one (ps_ret (pe_cd T.l_one G_l_one (hr.mono (by omega)) pass0 (pa_cons (pv 0) (pa_cons (pv 1) (pa_cons (pv 2) pa_nil))))))))))))))), ?_⟩
      cases re with
      | nul h =>
        refine ⟨_, rfl, _, _, 0, _, rfl, rfl, SqT.of h, rfl, _, rfl, rfl, _, rfl, iteT ?_⟩
        exact q.good (x := .nul) (Same.refl H) .nul
      | boo b h =>
        cases b with
        | true =>
          refine ⟨_, rfl, _, _, 0, _, rfl, rfl, SqT.of h, rfl, _, rfl, rfl, _, rfl, iteF ?_⟩
          refine in_strs (ss := [Str.ofString "true", Str.ofString "false"]) rfl (fun Q q => q) (by show 2 ≤ 100; decide) true (by rfl) fun H1 s1 => iteT ?_
          exact ⟨_, rfl, rfl, AnsL.good (x := .boo true) q s1 (.boo _)⟩
        | false =>
          refine ⟨_, rfl, _, _, 0, _, rfl, rfl, SqT.of h, rfl, _, rfl, rfl, _, rfl, iteF ?_⟩
          refine in_strs (ss := [Str.ofString "true", Str.ofString "false"]) rfl (fun Q q => q) (by show 2 ≤ 100; decide) true (by rfl) fun H1 s1 => iteT ?_
          exact ⟨_, rfl, rfl, AnsL.good (x := .boo false) q s1 (.boo _)⟩
      | @num p z h =>
        refine ⟨_, rfl, _, _, 0, _, rfl, rfl, SqT.of h, rfl, _, rfl, rfl, _, rfl, iteF ?_⟩
        refine in_strs (ss := [Str.ofString "true", Str.ofString "false"]) rfl (fun Q q => q) (by show 2 ≤ 100; decide) false (by rfl) fun H1 s1 => iteF ?_
        refine in_strs (ss := [Str.ofString "number", Str.ofString "text"]) rfl (fun Q q => q) (by show 2 ≤ 100; decide) true (by rfl) fun H2 s2 => iteT ?_
        exact ⟨_, rfl, p, _, 1, _, rfl, rfl, SqT.of ((s1.trans s2) _ _ h), rfl, AnsL.good (x := .num _) q (s1.trans s2) (.num _)⟩
      | @txt p z h =>
        refine ⟨_, rfl, _, _, 0, _, rfl, rfl, SqT.of h, rfl, _, rfl, rfl, _, rfl, iteF ?_⟩
        refine in_strs (ss := [Str.ofString "true", Str.ofString "false"]) rfl (fun Q q => q) (by show 2 ≤ 100; decide) false (by rfl) fun H1 s1 => iteF ?_
        refine in_strs (ss := [Str.ofString "number", Str.ofString "text"]) rfl (fun Q q => q) (by show 2 ≤ 100; decide) true (by rfl) fun H2 s2 => iteT ?_
        exact ⟨_, rfl, p, _, 1, _, rfl, rfl, SqT.of ((s1.trans s2) _ _ h), rfl, AnsL.good (x := .txt _) q (s1.trans s2) (.txt _)⟩
      | @name p nm h =>
        refine ⟨_, rfl, _, _, 0, _, rfl, rfl, SqT.of h, rfl, _, rfl, rfl, _, rfl, iteF ?_⟩
        refine in_strs (ss := [Str.ofString "true", Str.ofString "false"]) rfl (fun Q q => q) (by show 2 ≤ 100; decide) false (by rfl) fun H1 s1 => iteF ?_
        refine in_strs (ss := [Str.ofString "number", Str.ofString "text"]) rfl (fun Q q => q) (by show 2 ≤ 100; decide) false (by rfl) fun H2 s2 => iteF ?_
        have s12 := s1.trans s2
        obtain ⟨kvs, e1, e2, e3⟩ := env.ex
        have ni : nm ∈ ks := by simpa [wfE] using wf
        simp only [evE] at q
        rcases e3.val nm e2 with ⟨u, y, hu, hy, ru⟩ | ⟨hu, hy⟩
        · rw [hy] at q
          exact ⟨_, rfl, rfl, _, rfl, iteT ⟨_, rfl, _, rfl, p, _, 1, _, rfl, rfl, SqT.of (s12 _ _ h), rfl, d, u, rfl, .inl ⟨kvs, .inr nm, .inl (s12 _ _ e1), rfl, hu.symm⟩, AnsL.good q s12 (ru.sameN s12)⟩⟩
        · exfalso
          have el : ks.length = l.length := by
            have a1 := congrArg List.length e2
            have a2 := e3.length
            simp only [List.length_map] at a1 a2
            omega
          obtain ⟨z, hz⟩ := getK_some el ni
          rw [hz] at hy
          cases hy
      | @bin p g v u x y h rx ry =>
        refine ⟨_, rfl, _, _, 0, _, rfl, rfl, SqT.of h, rfl, _, rfl, rfl, _, rfl, iteF ?_⟩
        refine in_strs (ss := [Str.ofString "true", Str.ofString "false"]) rfl (fun Q q => q) (by show 2 ≤ 100; decide) false (by rfl) fun H1 s1 => iteF ?_
        refine in_strs (ss := [Str.ofString "number", Str.ofString "text"]) rfl (fun Q q => q) (by show 2 ≤ 100; decide) false (by rfl) fun H2 s2 => iteF ?_
        have s12 := s1.trans s2
        refine ⟨_, rfl, rfl, _, rfl, iteF ?_⟩
        simp only [depE] at dp
        exact ⟨_, rfl, rfl, _, rfl, iteT ⟨_, rfl, _, rfl, _, rfl, N, p, g, v, u, x, y, d, ks, l, o, rfl, s12 _ _ h, rx.same s12, ry.same s12, env'.same s12, wf, by omega, by omega, q.later s12⟩⟩
      | @cho p t v u c x y h rc rx ry =>
        refine ⟨_, rfl, _, _, 0, _, rfl, rfl, SqT.of h, rfl, _, rfl, rfl, _, rfl, iteF ?_⟩
        refine in_strs (ss := [Str.ofString "true", Str.ofString "false"]) rfl (fun Q q => q) (by show 2 ≤ 100; decide) false (by rfl) fun H1 s1 => iteF ?_
        refine in_strs (ss := [Str.ofString "number", Str.ofString "text"]) rfl (fun Q q => q) (by show 2 ≤ 100; decide) false (by rfl) fun H2 s2 => iteF ?_
        have s12 := s1.trans s2
        refine ⟨_, rfl, rfl, _, rfl, iteF ⟨_, rfl, rfl, _, rfl, iteF ?_⟩⟩
        simp only [depE] at dp
        simp only [wfE, Bool.and_eq_true, decide_eq_true_eq] at wf
        simp only [evE] at q
        refine ⟨_, rfl, rfl, _, rfl, iteT ⟨_, rfl, p, _, 1, _, rfl, rfl, SqT.of (s12 _ _ h), rfl, _, rfl, _, rfl, N, t, c, d, ks, l, o, rfl, rc.same s12, env'.same s12, wf.1.1, by omega, q.1.later s12, fun t3 H3 s3 ht3 => ?_⟩⟩
        refine ⟨N, t3, _, rfl, ht3, (q.1.later s12).later s3, fun t4 H4 s4 ht4 => ?_⟩
        have s14 := (s12.trans s3).trans s4
        cases ec : evE o c ks l with
        | error m =>
          rw [ec] at q ht4
          exact ⟨_, rfl, t4, _, 1, _, rfl, rfl, SqT.of ht4.1, rfl, rfl, _, rfl, iteT ⟨_, rfl, q.2 t4 H4 s14 ht4⟩⟩
        | ok z =>
          rw [ec] at q ht4
          cases z with
          | boo b =>
            obtain ⟨r4, h4, rr4⟩ := ht4
            cases rr4
            refine ⟨_, rfl, t4, _, 1, _, rfl, rfl, SqT.of h4.1, rfl, rfl, _, rfl, iteF ?_⟩
            refine ⟨_, rfl, by show 2 ≤ sizeLine; decide, fun t5 ht5 => ⟨_, rfl, t4, _, 0, _, rfl, rfl, SqT.of (same_new ht5 _ _ _ h4.1), rfl, .inr ⟨b, rfl, ?_⟩⟩⟩
            have s5 := same_new ht5 (.tup [.int 3, .int 2])
            have s15 := s14.trans s5
            cases b with
            | true => exact ⟨t5, _, 1, _, rfl, rfl, SqT.of upd_same, rfl, p, _, 2, _, rfl, rfl, SqT.of (s15 _ _ h), rfl, _, rfl, _, rfl, N, v, x, d, ks, l, o, rfl, rx.same s15, env'.same s15, wf.1.2, by omega, q.later s15⟩
            | false => exact ⟨t5, _, 0, _, rfl, rfl, SqT.of upd_same, rfl, p, _, 3, _, rfl, rfl, SqT.of (s15 _ _ h), rfl, _, rfl, _, rfl, N, u, y, d, ks, l, o, rfl, ry.same s15, env'.same s15, wf.2, by omega, q.later s15⟩
          | _ => exact ⟨_, rfl, t4, _, 1, _, rfl, rfl, SqT.of ht4.1, rfl, rfl, _, rfl, iteT ⟨_, rfl, AnsL.mk2 q s14 ht4⟩⟩
      | @gat p v u x s y h rx ry =>
        refine ⟨_, rfl, _, _, 0, _, rfl, rfl, SqT.of h, rfl, _, rfl, rfl, _, rfl, iteF ?_⟩
        refine in_strs (ss := [Str.ofString "true", Str.ofString "false"]) rfl (fun Q q => q) (by show 2 ≤ 100; decide) false (by rfl) fun H1 s1 => iteF ?_
        refine in_strs (ss := [Str.ofString "number", Str.ofString "text"]) rfl (fun Q q => q) (by show 2 ≤ 100; decide) false (by rfl) fun H2 s2 => iteF ?_
        have s12 := s1.trans s2
        refine ⟨_, rfl, rfl, _, rfl, iteF ⟨_, rfl, rfl, _, rfl, iteF ⟨_, rfl, rfl, _, rfl, iteF ?_⟩⟩⟩
        exact ⟨_, rfl, rfl, _, rfl, iteT ⟨_, rfl, _, rfl, _, rfl, N, p, _, v, s, u, _, x, y, none, d, ks, l, o, rfl, .gat (s12 _ _ h) (rx.same s12) (ry.same s12), env.same s12, wf, dp, q.later s12⟩⟩
      | @gatIf p v u t x s y c h rx ry rc =>
        refine ⟨_, rfl, _, _, 0, _, rfl, rfl, SqT.of h, rfl, _, rfl, rfl, _, rfl, iteF ?_⟩
        refine in_strs (ss := [Str.ofString "true", Str.ofString "false"]) rfl (fun Q q => q) (by show 2 ≤ 100; decide) false (by rfl) fun H1 s1 => iteF ?_
        refine in_strs (ss := [Str.ofString "number", Str.ofString "text"]) rfl (fun Q q => q) (by show 2 ≤ 100; decide) false (by rfl) fun H2 s2 => iteF ?_
        have s12 := s1.trans s2
        refine ⟨_, rfl, rfl, _, rfl, iteF ⟨_, rfl, rfl, _, rfl, iteF ⟨_, rfl, rfl, _, rfl, iteF ?_⟩⟩⟩
        exact ⟨_, rfl, rfl, _, rfl, iteT ⟨_, rfl, _, rfl, _, rfl, N, p, _, v, s, u, t, x, y, some c, d, ks, l, o, rfl, .gatIf (s12 _ _ h) (rx.same s12) (ry.same s12) (rc.same s12), env.same s12, wf, dp, q.later s12⟩⟩
      | @fn p b f xs es h g r =>
        refine ⟨_, rfl, _, _, 0, _, rfl, rfl, SqT.of h, rfl, _, rfl, rfl, _, rfl, iteF ?_⟩
        refine in_strs (ss := [Str.ofString "true", Str.ofString "false"]) rfl (fun Q q => q) (by show 2 ≤ 100; decide) false (by rfl) fun H1 s1 => iteF ?_
        refine in_strs (ss := [Str.ofString "number", Str.ofString "text"]) rfl (fun Q q => q) (by show 2 ≤ 100; decide) false (by rfl) fun H2 s2 => iteF ?_
        have s12 := s1.trans s2
        refine ⟨_, rfl, rfl, _, rfl, iteF ⟨_, rfl, rfl, _, rfl, iteF ⟨_, rfl, rfl, _, rfl, iteF ⟨_, rfl, rfl, _, rfl, iteF ?_⟩⟩⟩⟩
        refine in_strs (ss := [Str.ofString "record", Str.ofString "list", Str.ofString "function", Str.ofString "act"]) rfl (fun Q q => q) (by show 4 ≤ 100; decide) true (by rfl) fun H3 s3 => iteT ?_
        have s13 := s12.trans s3
        exact ⟨_, rfl, _, rfl, _, rfl, N, p, _, d, ks, l, o, rfl, .fn (s13 _ _ h) (s13 _ _ g) (r.same s13), env'.same s13, wf, dp, q.later s13⟩
      | @lst p b xs es h g r =>
        refine ⟨_, rfl, _, _, 0, _, rfl, rfl, SqT.of h, rfl, _, rfl, rfl, _, rfl, iteF ?_⟩
        refine in_strs (ss := [Str.ofString "true", Str.ofString "false"]) rfl (fun Q q => q) (by show 2 ≤ 100; decide) false (by rfl) fun H1 s1 => iteF ?_
        refine in_strs (ss := [Str.ofString "number", Str.ofString "text"]) rfl (fun Q q => q) (by show 2 ≤ 100; decide) false (by rfl) fun H2 s2 => iteF ?_
        have s12 := s1.trans s2
        refine ⟨_, rfl, rfl, _, rfl, iteF ⟨_, rfl, rfl, _, rfl, iteF ⟨_, rfl, rfl, _, rfl, iteF ⟨_, rfl, rfl, _, rfl, iteF ?_⟩⟩⟩⟩
        refine in_strs (ss := [Str.ofString "record", Str.ofString "list", Str.ofString "function", Str.ofString "act"]) rfl (fun Q q => q) (by show 4 ≤ 100; decide) true (by rfl) fun H3 s3 => iteT ?_
        have s13 := s12.trans s3
        exact ⟨_, rfl, _, rfl, _, rfl, N, p, _, d, ks, l, o, rfl, .lst (s13 _ _ h) (s13 _ _ g) (r.same s13), env'.same s13, wf, dp, q.later s13⟩
      | @rcd p b ps js es h g r =>
        refine ⟨_, rfl, _, _, 0, _, rfl, rfl, SqT.of h, rfl, _, rfl, rfl, _, rfl, iteF ?_⟩
        refine in_strs (ss := [Str.ofString "true", Str.ofString "false"]) rfl (fun Q q => q) (by show 2 ≤ 100; decide) false (by rfl) fun H1 s1 => iteF ?_
        refine in_strs (ss := [Str.ofString "number", Str.ofString "text"]) rfl (fun Q q => q) (by show 2 ≤ 100; decide) false (by rfl) fun H2 s2 => iteF ?_
        have s12 := s1.trans s2
        refine ⟨_, rfl, rfl, _, rfl, iteF ⟨_, rfl, rfl, _, rfl, iteF ⟨_, rfl, rfl, _, rfl, iteF ⟨_, rfl, rfl, _, rfl, iteF ?_⟩⟩⟩⟩
        refine in_strs (ss := [Str.ofString "record", Str.ofString "list", Str.ofString "function", Str.ofString "act"]) rfl (fun Q q => q) (by show 4 ≤ 100; decide) true (by rfl) fun H3 s3 => iteT ?_
        have s13 := s12.trans s3
        exact ⟨_, rfl, _, rfl, _, rfl, N, p, _, d, ks, l, o, rfl, .rcd (s13 _ _ h) (s13 _ _ g) (r.same s13), env'.same s13, wf, dp, q.later s13⟩
      | @act p b nm xs es h g r =>
        refine ⟨_, rfl, _, _, 0, _, rfl, rfl, SqT.of h, rfl, _, rfl, rfl, _, rfl, iteF ?_⟩
        refine in_strs (ss := [Str.ofString "true", Str.ofString "false"]) rfl (fun Q q => q) (by show 2 ≤ 100; decide) false (by rfl) fun H1 s1 => iteF ?_
        refine in_strs (ss := [Str.ofString "number", Str.ofString "text"]) rfl (fun Q q => q) (by show 2 ≤ 100; decide) false (by rfl) fun H2 s2 => iteF ?_
        have s12 := s1.trans s2
        refine ⟨_, rfl, rfl, _, rfl, iteF ⟨_, rfl, rfl, _, rfl, iteF ⟨_, rfl, rfl, _, rfl, iteF ⟨_, rfl, rfl, _, rfl, iteF ?_⟩⟩⟩⟩
        refine in_strs (ss := [Str.ofString "record", Str.ofString "list", Str.ofString "function", Str.ofString "act"]) rfl (fun Q q => q) (by show 4 ≤ 100; decide) true (by rfl) fun H3 s3 => iteT ?_
        have s13 := s12.trans s3
        exact ⟨_, rfl, _, rfl, _, rfl, N, p, _, d, ks, l, o, rfl, .act (s13 _ _ h) (s13 _ _ g) (r.same s13), env'.same s13, wf, dp, q.later s13⟩
      | @nt p v x h r =>
        refine ⟨_, rfl, _, _, 0, _, rfl, rfl, SqT.of h, rfl, _, rfl, rfl, _, rfl, iteF ?_⟩
        refine in_strs (ss := [Str.ofString "true", Str.ofString "false"]) rfl (fun Q q => q) (by show 2 ≤ 100; decide) false (by rfl) fun H1 s1 => iteF ?_
        refine in_strs (ss := [Str.ofString "number", Str.ofString "text"]) rfl (fun Q q => q) (by show 2 ≤ 100; decide) false (by rfl) fun H2 s2 => iteF ?_
        have s12 := s1.trans s2
        refine ⟨_, rfl, rfl, _, rfl, iteF ⟨_, rfl, rfl, _, rfl, iteF ⟨_, rfl, rfl, _, rfl, iteF ⟨_, rfl, rfl, _, rfl, iteF ?_⟩⟩⟩⟩
        refine in_strs (ss := [Str.ofString "record", Str.ofString "list", Str.ofString "function", Str.ofString "act"]) rfl (fun Q q => q) (by show 4 ≤ 100; decide) false (by rfl) fun H3 s3 => iteF ?_
        have s13 := s12.trans s3
        exact ⟨_, rfl, _, rfl, _, rfl, N, p, _, _, _, _, d, ks, l, o, rfl, .nt (s13 _ _ h) (r.same s13), env'.same s13, wf, dp, q.later s13⟩
      | @neg p v x h r =>
        refine ⟨_, rfl, _, _, 0, _, rfl, rfl, SqT.of h, rfl, _, rfl, rfl, _, rfl, iteF ?_⟩
        refine in_strs (ss := [Str.ofString "true", Str.ofString "false"]) rfl (fun Q q => q) (by show 2 ≤ 100; decide) false (by rfl) fun H1 s1 => iteF ?_
        refine in_strs (ss := [Str.ofString "number", Str.ofString "text"]) rfl (fun Q q => q) (by show 2 ≤ 100; decide) false (by rfl) fun H2 s2 => iteF ?_
        have s12 := s1.trans s2
        refine ⟨_, rfl, rfl, _, rfl, iteF ⟨_, rfl, rfl, _, rfl, iteF ⟨_, rfl, rfl, _, rfl, iteF ⟨_, rfl, rfl, _, rfl, iteF ?_⟩⟩⟩⟩
        refine in_strs (ss := [Str.ofString "record", Str.ofString "list", Str.ofString "function", Str.ofString "act"]) rfl (fun Q q => q) (by show 4 ≤ 100; decide) false (by rfl) fun H3 s3 => iteF ?_
        have s13 := s12.trans s3
        exact ⟨_, rfl, _, rfl, _, rfl, N, p, _, _, _, _, d, ks, l, o, rfl, .neg (s13 _ _ h) (r.same s13), env'.same s13, wf, dp, q.later s13⟩
      | @fld p nm v x h r =>
        refine ⟨_, rfl, _, _, 0, _, rfl, rfl, SqT.of h, rfl, _, rfl, rfl, _, rfl, iteF ?_⟩
        refine in_strs (ss := [Str.ofString "true", Str.ofString "false"]) rfl (fun Q q => q) (by show 2 ≤ 100; decide) false (by rfl) fun H1 s1 => iteF ?_
        refine in_strs (ss := [Str.ofString "number", Str.ofString "text"]) rfl (fun Q q => q) (by show 2 ≤ 100; decide) false (by rfl) fun H2 s2 => iteF ?_
        have s12 := s1.trans s2
        refine ⟨_, rfl, rfl, _, rfl, iteF ⟨_, rfl, rfl, _, rfl, iteF ⟨_, rfl, rfl, _, rfl, iteF ⟨_, rfl, rfl, _, rfl, iteF ?_⟩⟩⟩⟩
        refine in_strs (ss := [Str.ofString "record", Str.ofString "list", Str.ofString "function", Str.ofString "act"]) rfl (fun Q q => q) (by show 4 ≤ 100; decide) false (by rfl) fun H3 s3 => iteF ?_
        have s13 := s12.trans s3
        exact ⟨_, rfl, _, rfl, _, rfl, N, p, _, _, _, _, d, ks, l, o, rfl, .fld (s13 _ _ h) (r.same s13), env'.same s13, wf, dp, q.later s13⟩
      | @itm p v u x y h r r2 =>
        refine ⟨_, rfl, _, _, 0, _, rfl, rfl, SqT.of h, rfl, _, rfl, rfl, _, rfl, iteF ?_⟩
        refine in_strs (ss := [Str.ofString "true", Str.ofString "false"]) rfl (fun Q q => q) (by show 2 ≤ 100; decide) false (by rfl) fun H1 s1 => iteF ?_
        refine in_strs (ss := [Str.ofString "number", Str.ofString "text"]) rfl (fun Q q => q) (by show 2 ≤ 100; decide) false (by rfl) fun H2 s2 => iteF ?_
        have s12 := s1.trans s2
        refine ⟨_, rfl, rfl, _, rfl, iteF ⟨_, rfl, rfl, _, rfl, iteF ⟨_, rfl, rfl, _, rfl, iteF ⟨_, rfl, rfl, _, rfl, iteF ?_⟩⟩⟩⟩
        refine in_strs (ss := [Str.ofString "record", Str.ofString "list", Str.ofString "function", Str.ofString "act"]) rfl (fun Q q => q) (by show 4 ≤ 100; decide) false (by rfl) fun H3 s3 => iteF ?_
        have s13 := s12.trans s3
        exact ⟨_, rfl, _, rfl, _, rfl, N, p, _, _, _, _, d, ks, l, o, rfl, .itm (s13 _ _ h) (r.same s13) (r2.same s13), env'.same s13, wf, dp, q.later s13⟩
end
end K19
namespace L2
open PySem PySem.Spec PyProof.Rows
/-- isinstance(e, Fault), e the exception that the suite holds -/
def rIsF (C a : Addr) (cls : Value) (d : Option Addr) : List V → Hp → VK → Prop := fun xs H Q => xs = [.ref a, .ref C] ∧ cls = .ref C ∧ ∃ (dd : Addr) (v : V), d = some dd ∧ H dd = some (.xd [(("message" : Str), v)]) ∧ Q (.bl true) H
theorem call_isF {X : Cx} {C fI V a : Addr} {oe : Obj} {cls : Value} {d : Option Addr} {pn : List (Addr × Obj)} (T : PySem.FltX.FltTxt X.prog X.K X.mg C fI) (S : K19.FltIs X.K X.mg C V) (hz : Zc cls d oe) (hf : ∃ vs, oe.data = .fields vs) :
    CallR (X.suite a ((a, oe) :: pn)) (.builtin "isinstance") (rIsF C a cls d) := by
  rintro pins s σ H xs us Q I r ⟨rfl, rfl, dd, v, rfl, ea, q⟩
  cases r with
  | cons rx rr =>
    cases rr with
    | cons rt rr =>
      cases rr
      cases rx
      cases rt
      obtain ⟨hget, _⟩ := I.pin (a, oe) (List.mem_append_left _ List.mem_cons_self)
      obtain ⟨vs, hd⟩ := hf
      have hx : ObjOk X.prog X.w H s.heap dd (.xd [(("message" : Str), v)]) := I.hok dd _ ea
      obtain ⟨mA, hns, hr⟩ := hx
      obtain ⟨od, ho, hl⟩ := lookIn_ns hns
      have J : PySem.W.InstAt s.heap a oe C (some od) := ⟨hget, hz.1, by unfold PySem.W.notCls; rw [hd] <;> rfl, by rw [hz.2]; exact ho⟩
      obtain ⟨nm, q0, N, bs, bm, sn, sub, ab, col, dd0, k0, k1, k2, k3, k5, hC, _⟩ := T.cls
      have hcl : (PySem.W.clsIn X.K C).isSome = true := by
        obtain ⟨cd, hc, _⟩ := PySem.W.any_some T.hdC
        rw [hc]
        rfl
      exact PySem.W.kia_one (PySem.W.kitx_exc hcl T.ga T.gg T.exC S.ha S.hn S.htk S.hm) I.kIn J S.kit (fun z => nomatch z) fun tk => ⟨.bl true, H, I.kept (t' := tk) fun _ _ z => z, rfl, q⟩
end L2
namespace K19
open PySem PySem.Spec PyProof.Rows L2
theorem sc_l_evaluated : FnScope nm_l_evaluated ["_law_expression_here", "_law_environment_here", "_law_owner"] (defScope s_l_evaluated) := ⟨rfl, rfl, rfl, by decide +kernel, rfl, by decide +kernel, by decide +kernel⟩
theorem sc_l_right : FnScope nm_l_right ["_law_told", "_law_due"] (defScope s_l_right) := ⟨rfl, rfl, rfl, by decide +kernel, rfl, by decide +kernel, by decide +kernel⟩

section
variable {P : Program} {w : World} {K : PySem.W.Frag} {mg : Str → Option Value} {base : Heap} {a : Ads}
/-- what _law_evaluated tells -/
def AnsV (H : Hp) (r : Res) (Q : VK) : Prop := match r with
  | .ok y => ∀ t u H', Same H H' → H' t = some (.tup [u, .non]) → Fresh H H' u y → Q (.ref t) H'
  | .error m => ∀ t H', Same H H' → H' t = some (.tup [.non, .str m]) → Q (.ref t) H'
def spEvd (n : Nat) : Sp := fun vs H Q _ => ∃ e ex d ks l o, vs = [e, .ref d, .int o] ∧ RepE (At H) e ex ∧ EnvOk H d ks l o n ∧ wfE ex ks = true ∧ depE ex ≤ n ∧ AnsV H (evE o ex ks l) Q
def t_evdSuite (C ea : Addr) (cls : Value) (d : Option Addr) : TS :=
  tIfS (tAnd (tTest (tCB (rIsF C ea cls d) (tCons (tVar 3) (tCons (tC (.ref C)) tNil)))) (tTest (tCB rIsV (tCons (tMsgFlt C ea cls d (tVar 3)) (tCons (tC (.ty "str")) tNil))))) (tRet (tTup (tCons (tC .non) (tCons (tMsgFlt C ea cls d (tVar 3)) tNil)))) tNext
theorem ok_l_evaluated (T : Txt P w K mg a) (n : Nat) : FnOk P w K mg base CX0 (61 + 3 * n) a.l_evaluated a.l_evaluated_d ["_law_expression_here", "_law_environment_here", "_law_owner"] (spEvd n) := by
  have G_evaluate := ok_evaluate (base := base) T n
  have ek : 61 + 3 * n = (60 + 3 * n) + 1 := by omega
  rw [ek]
  refine T.l_evaluated.F.ok sc_l_evaluated (fun vs H Q E h => ?_) (fun cdv A outer s H vs Q E hr h => ?_)
  · obtain ⟨e, ex, d, ks, l, o, rfl, _⟩ := h
    rfl
  · obtain ⟨e, ex, d, ks, l, o, rfl, re, env, wf, dp, q⟩ := h
    refine ⟨_, pss_cons (ps_try_as (i := 3) (tb := fun W => tRet (tTup (tCons (tCallS (spEv a.flt n) (WE W) (tCons (tVar 0) (tCons (tVar 1) (tCons (tVar 2) tNil)))) (tCons (tC .non) tNil)))) (ts := t_evdSuite a.flt) (Wout := fun _ _ _ _ => False) rfl rfl sc_l_evaluated.nd rfl rfl ⟨rfl, by decide, Or.inl T.fis.gV⟩ takes0
        (fun W pn xe tk _ => pss_one (ps_ret (pe_tup (pa_cons (by exact (pe_callS G_evaluate hr rfl T.evaluate.g T.evaluate.F.kp T.evaluate.b (fun σ => passAt tk σ) (by exact (pa_cons (pv 0) (pa_cons (pv 1) (pa_cons (pv 2) pa_nil)))))) (pa_cons pe_non pa_nil)))))
        (fun ea oe cls d pn hz hf => pss_one (ps_if (PW.pt (pw_and (pt_val (pe_callB (call_isF T.flt T.fis hz hf) rfl T.b_isinstance (by decide +kernel) (pa_cons (pv 3) (pa_cons (pe_glob (v := .ref a.flt) rfl T.flt.gC rfl) pa_nil)))) (pw_and1 (pt_val (pe_callB call_isV rfl T.b_isinstance (by decide +kernel) (pa_cons (pe_msgFlt T.flt hz hf (pv 3)) (pa_cons (pe_bltn (v := .ty "str") (u := .type "str") rfl T.b_str (by decide +kernel) rfl) pa_nil)))))))
          (pss_one (ps_ret (pe_tup (pa_cons pe_non (pa_cons (pe_msgFlt T.flt hz hf (pv 3)) pa_nil))))) pss_nil)))
      (pss_one (ps_ret (pe_tup (pa_cons pe_non (pa_cons pe_str pa_nil))))), ?_⟩
    refine ⟨_, rfl, _, rfl, _, rfl, e, ex, d, ks, l, o, rfl, re, env, wf, dp, ?_⟩
    cases ee : evE o ex ks l with
    | ok y =>
      rw [ee] at q
      intro r H1 s1 f1
      exact ⟨by show 2 ≤ sizeLine; decide, fun t ht => q t r _ (same_snoc s1 ht _) upd_same (f1.same (same_new ht _))⟩
    | error m =>
      rw [ee] at q
      intro dd H1 s1 hd
      refine ⟨true, T.fis.exm, fun _ a0 _ => ?_, fun z => by cases z⟩
      refine ⟨_, rfl, rfl, rfl, dd, _, rfl, hd, _, rfl, iteT ⟨_, rfl, rfl, rfl, dd, _, rfl, hd, .str m, .txt m, .str, rfl, .txt m, _, rfl, iteT ⟨_, rfl, rfl, rfl, dd, _, rfl, hd, by show 2 ≤ sizeLine; decide, fun t ht => ?_⟩⟩⟩
      exact q t _ (same_snoc s1 ht _) upd_same
end
end K19
namespace K19
open PySem PySem.Spec PyProof.Rows L2
theorem sc_l_spoil : FnScope nm_l_spoil ["_law_value_here"] (defScope s_l_spoil) := ⟨rfl, rfl, rfl, by decide +kernel, rfl, by decide +kernel, by decide +kernel⟩

theorem getK_app {k : Str} {y : Val} : ∀ {k1 k2 : List Str} {l1 l2 : List Val}, k1.length = l1.length → k ∉ k1 → getK (k1 ++ k :: k2) (l1 ++ y :: l2) k = some y
  | [], _, [], _, _, _ => by simp [getK]
  | [], _, _ :: _, _, h, _ => by simp at h
  | _ :: _, _, [], _, h, _ => by simp at h
  | j :: k1, k2, x :: l1, l2, h, n => by
    have n' : ¬ j = k ∧ k ∉ k1 := by simpa [eq_comm] using n
    simp only [List.cons_append, getK, if_neg n'.1]
    exact getK_app (by simpa using h) n'.2
mutual
theorem sameV_refl : ∀ x : Val, okV x = true → sameV x x = true
  | .nul, _ => rfl
  | .boo b, _ => by simp [sameV]
  | .num i, _ => by simp [sameV]
  | .txt s, _ => by simp [sameV]
  | .lst l, h => by
    simp only [sameV]
    exact sameL_refl l (by simpa [okV] using h)
  | .rcd ks l, h => by
    simp only [sameV, beq_self_eq_true, Bool.true_and]
    obtain ⟨nd, hl, _, ho⟩ := ok_rcd h
    exact sameR_refl l ks [] [] ho hl rfl nd
  | .act o n l, h => by
    simp only [sameV, beq_self_eq_true, Bool.true_and]
    exact sameL_refl l (ok_parts (x := .act o n l) h)
theorem sameL_refl : ∀ l : List Val, okL l = true → sameL l l = true
  | [], _ => rfl
  | x :: r, h => by
    simp only [okL, Bool.and_eq_true] at h
    simp only [sameL, sameV_refl x h.1, sameL_refl r h.2, Bool.and_self]
theorem sameR_refl : ∀ (l : List Val) (ks k1 : List Str) (l1 : List Val), okL l = true → ks.length = l.length → k1.length = l1.length → (k1 ++ ks).Nodup → sameR l ks (k1 ++ ks) (l1 ++ l) = true
  | [], [], _, _, _, _, _, _ => rfl
  | [], _ :: _, _, _, _, h, _, _ => by simp at h
  | _ :: _, [], _, _, _, h, _, _ => by simp at h
  | x :: r, k :: ks, k1, l1, ho, hl, h1, nd => by
    simp only [okL, Bool.and_eq_true] at ho
    have nk : k ∉ k1 := fun m => (List.nodup_append.mp nd).2.2 k m k (by simp) rfl
    have e1 := sameR_refl r ks (k1 ++ [k]) (l1 ++ [x]) ho.2 (by simpa using hl) (by simp [h1]) (by simpa using nd)
    rw [List.append_assoc, List.append_assoc] at e1
    simp only [sameR, getK_app h1 nk, sameV_refl x ho.1, Bool.true_and]
    exact e1
end
section
variable {P : Program} {w : World} {K : PySem.W.Frag} {mg : Str → Option Value} {base : Heap} {a : Ads}
def spRight : Sp := fun vs H Q _ => ∃ N t1 t2 r, vs = [.ref t1, .ref t2] ∧ ResAt (At H) t1 r ∧ ResAt (AtN N H) t2 r ∧ (∀ y, r = .ok y → good y) ∧ ∀ H', Same H H' → Q (.bl true) H'
theorem ok_l_right (T : Txt P w K mg a) : FnOk P w K mg base CX0 60 a.l_right a.l_right_d ["_law_told", "_law_due"] spRight := by
  have G_l_same := ok_l_same (base := base) T 41
  refine T.l_right.F.ok sc_l_right (fun vs H Q E h => ?_) (fun cdv A outer s H vs Q E hr h => ?_)
  · obtain ⟨N, t1, t2, r, rfl, _⟩ := h
    rfl
  · obtain ⟨N, t1, t2, r, rfl, h1, h2, gd, q⟩ := h
    refine ⟨_, (pss_cons (ps_if (pt_cmpR op_notN (pe_ix ix_tup (pv 1) pe_int (fun _ _ => rfl)) pe_non (nomark _)) (pss_one (ps_ret (pe_cmpR op_eq (pe_ix ix_tup (pv 0) pe_int (fun _ _ => rfl)) (pe_ix ix_tup (pv 1) pe_int (fun _ _ => rfl)) (nomark _)))) pss_nil)
      (pss_one (ps_ret (pe_and (pe_cmpR op_isN (pe_ix ix_tup (pv 0) pe_int (fun _ _ => rfl)) pe_non (nomark _)) (pe_one (pe_cd T.l_same G_l_same (hr.mono (by omega)) pass0 (pa_cons (pe_ix ix_tup (pv 0) pe_int (fun _ _ => rfl)) (pa_cons (pe_ix ix_tup (pv 1) pe_int (fun _ _ => rfl)) pa_nil)))))))), ?_⟩
    cases r with
    | error m =>
      refine ⟨_, rfl, t2, _, 1, _, rfl, rfl, SqT.of h2.1, rfl, rfl, _, rfl, iteT ⟨_, rfl, t1, _, 1, _, rfl, rfl, SqT.of h1, rfl, _, rfl, t2, _, 1, _, rfl, rfl, SqT.of h2.1, rfl, rfl, ?_⟩⟩
      rw [decide_eq_true rfl]
      exact q H (Same.refl H)
    | ok y =>
      obtain ⟨u1, a1, r1⟩ := h1
      obtain ⟨u2, a2, r2⟩ := h2
      have g := gd y rfl
      have rk1 := rk_le y
      refine ⟨_, rfl, t2, _, 1, _, rfl, rfl, SqT.of a2.1, rfl, rfl, _, rfl, iteF ⟨_, rfl, t1, _, 1, _, rfl, rfl, SqT.of a1, rfl, rfl, _, rfl, iteT ?_⟩⟩
      refine ⟨_, rfl, t1, _, 0, _, rfl, rfl, SqT.of a1, rfl, _, rfl, t2, _, 0, _, rfl, rfl, SqT.of a2.1, rfl, u1, u2, y, y, rfl, r1, r2.n.rd, g.1, g.1, by have := g.2.1; omega, by have := g.2.2; omega, by have := g.2.2; omega, fun H' s => ?_⟩
      rw [sameV_refl y g.1]
      exact q H' s
/-- what a value is made of, one level down -/
inductive Kids (H : Hp) : V → List V → Prop
  | lst {a : Addr} {xs : List V} : H a = some (.lst xs) → Kids H (.ref a) xs
  | rcd {a : Addr} {kvs : List (Key × V)} : H a = some (.dK kvs) → Kids H (.ref a) (kvs.map (·.2))
  | act {a b : Addr} {o : Int} {n : Str} {xs : List V} : H a = some (.tup [.str "act", .int o, .str n, .ref b]) → H b = some (.lst xs) → Kids H (.ref a) xs
def spPartsX : Sp := fun vs H Q _ => ∃ v x, vs = [v] ∧ Rep (At H) v x ∧ okV x = true ∧ sizeV x ≤ 9000000 ∧
  ∀ p xs H', Same H H' → H' p = some (.lst xs) → (match x with | .lst _ => v = .ref p | .act o n _ => (∃ a, v = .ref a ∧ H a = some (.tup [.str "act", .int o, .str n, .ref p])) | .rcd _ _ => (∃ a kvs, v = .ref a ∧ H a = some (.dK kvs) ∧ xs = kvs.map (·.2)) ∧ H p = none | _ => xs = [] ∧ H p = none) → Q (.ref p) H'
theorem ok_l_partsX (T : Txt P w K mg a) : FnOk P w K mg base CX0 2 a.l_parts a.l_parts_d ["_law_value_here"] spPartsX := by
  have G_l_kind := ok_l_kind (base := base) T
  refine T.l_parts.F.ok sc_l_parts (fun vs H Q E h => ?_) (fun cdv A outer s H vs Q E hr h => ?_)
  · obtain ⟨v, x, rfl, _⟩ := h
    rfl
  · obtain ⟨v, x, rfl, rep, hok, hz, q⟩ := h
    refine ⟨_, (pss_cons (ps_set (i := 1) sc_l_parts.nd rfl (Or.inl rfl) (pe_cd T.l_kind G_l_kind (hr.mono (by omega)) pass0 (pa_cons (pv 0) pa_nil)))
      (pss_cons (ps_if (pt_cmpR op_eq (pv 1) pe_str (nomark _)) (pss_one (ps_ret (pv 0))) pss_nil)
      (pss_cons (ps_if (pt_cmpR op_eq (pv 1) pe_str (nomark _)) (pss_one (ps_ret (pe_lock (pe_lc (own := [("_law_name", 2)]) (g := gName 2) rfl sc_l_parts.nd (pi_keys (pv 0)) (blkOk_by (own := [("_law_name", 2)]) (N := nm_l_parts) (sc := defScope s_l_parts) (by decide +kernel)) (fun _ _ _ _ _ => pg_name (i := 2) sc_l_parts.nd rfl (Or.inl rfl)) (fun _ _ _ _ _ => pts_nil) (fun _ _ _ _ _ => (pe_dget (hu_of hr) (pv 0) (pv 2) (fun _ _ => rfl))))))) pss_nil)
      (pss_cons (ps_if (pt_cmpR op_eq (pv 1) pe_str (nomark _)) (pss_one (ps_ret (pe_ix ix_tup (pv 0) pe_int (fun _ _ => rfl)))) pss_nil)
      (pss_one (ps_ret (pe_lst pa_nil))))))), ?_⟩
    refine ⟨_, rfl, v, x, rfl, rep.rd, ?_⟩
    cases rep with
    | lst h r =>
      refine ⟨_, rfl, rfl, _, rfl, iteT ?_⟩
      exact ⟨_, rfl, q _ _ _ (Same.refl H) h rfl⟩
    | @rcd d kvs ks l h k r =>
      refine ⟨_, rfl, rfl, _, rfl, iteF ?_⟩
      refine ⟨_, rfl, rfl, _, rfl, iteT ?_⟩
      have hl : kvs.length = l.length := by rw [← r.length, List.length_map]
      simp only [sizeV] at hz
      have hz' : l.length ≤ 9000000 := Nat.le_trans (sizeL_len l) (by omega)
      refine ⟨d, _, h, trivial, fun od => ?_⟩
      refine ⟨_, rfl, d, od, rfl, .inl ⟨kvs, upd_same, fun D hD => ?_⟩⟩
      refine lc_it walk_keys (fun i H1 => Same (upd H d (.frz od (.dK kvs))) H1 ∧ H1 D = some (.lst ((kvs.take i).map (·.2)))) ⟨same_new hD _, upd_same⟩ (fun i H1 _ z => z.1 _ _ upd_same) ?_ ?_
      · rintro i y H1 H2 hi ⟨s1, e1⟩ ⟨rfl, k', v', hk, rfl⟩
        refine ⟨rfl, ?_⟩
        refine ⟨_, rfl, _, rfl, d, v', rfl, .inl ⟨kvs, k', .inr ⟨od, s1 _ _ upd_same⟩, rfl, (valV_at (nd_keys k (ok_rcd hok).1) hk).symm⟩, _, e1, lt_line (by rw [List.length_map, List.length_take]; omega), ?_, ?_⟩
        · exact same_mut s1 hD _
        · rw [upd_same, take_succ_get hk, List.map_append]
          rfl
      · rintro H1 ⟨s1, e1⟩
        refine ⟨s1 _ _ upd_same, ?_⟩
        have ne : D ≠ d := fun z => by
          rw [z, s1 _ _ upd_same] at e1
          cases e1
        have s2 := unlock_same h s1
        exact q D _ _ s2 (by rw [upd_ne ne, e1, List.take_length]) ⟨⟨d, kvs, rfl, h, rfl⟩, by rw [upd_ne ne] at hD; exact hD⟩
    | act h g r =>
      refine ⟨_, rfl, rfl, _, rfl, iteF ?_⟩
      refine ⟨_, rfl, rfl, _, rfl, iteF ?_⟩
      refine ⟨_, rfl, rfl, _, rfl, iteT ?_⟩
      exact ⟨_, rfl, _, _, _, _, rfl, rfl, SqT.of h, rfl, q _ _ _ (Same.refl H) g ⟨_, rfl, h⟩⟩
    | _ =>
      refine ⟨_, rfl, rfl, _, rfl, iteF ?_⟩
      refine ⟨_, rfl, rfl, _, rfl, iteF ?_⟩
      refine ⟨_, rfl, rfl, _, rfl, iteF ?_⟩
      exact ⟨Nat.zero_le _, fun p hp => q _ _ _ (same_new hp _) upd_same ⟨rfl, hp⟩⟩
/-- only what F names may have changed -/
def But (F : List Addr) (H H' : Hp) : Prop := ∀ b u, b ∉ F → H b = some u → H' b = some u
theorem But.trans {F G : List Addr} {H H1 H2 : Hp} (h : But F H H1) (g : But G H1 H2) : But (F ++ G) H H2 := fun b u hb e => g b u (fun m => hb (List.mem_append_right _ m)) (h b u (fun m => hb (List.mem_append_left _ m)) e)
def spSpoil (n : Nat) : Sp := fun vs H Q _ => ∃ v x F, vs = [v] ∧ Own H v x F ∧ F.Nodup ∧ okV x = true ∧ depthV x ≤ n ∧ sizeV x ≤ 9000000 ∧ ∀ H', But F H H' → Q .non H'
theorem OwnL.drop_cons {H : Hp} {xs : List V} {l : List Val} {F : List Addr} {i : Nat} {v : V} (h : OwnL H (xs.drop i) (l.drop i) F) (hv : xs[i]? = some v) : ∃ x F1 F2, l[i]? = some x ∧ F = F1 ++ F2 ∧ Own H v x F1 ∧ OwnL H (xs.drop (i + 1)) (l.drop (i + 1)) F2 := by
  obtain ⟨hlt, e⟩ := List.getElem?_eq_some_iff.mp hv
  rw [List.drop_eq_getElem_cons hlt, e] at h
  cases hl : l.drop i with
  | nil =>
    rw [hl] at h
    cases h
  | cons x r =>
    rw [hl] at h
    have e2 : l[i]? = some x := by
      have := congrArg (fun z => z[0]?) hl
      simpa using this
    have e3 : l.drop (i + 1) = r := by
      have := congrArg (fun z => z.drop 1) hl
      simpa [List.drop_drop, Nat.add_comm] using this
    cases h with
    | cons h1 h2 => exact ⟨x, _, _, e2, rfl, h1, by rw [e3]; exact h2⟩
theorem ok_l_spoil (T : Txt P w K mg a) : ∀ n : Nat, FnOk P w K mg base CX0 (n + 3) a.l_spoil a.l_spoil_d ["_law_value_here"] (spSpoil n)
  | 0 => fn_none fun vs H Q E h => by
    obtain ⟨v, x, F, _, _, _, _, h, _⟩ := h
    have := depthV_pos x
    omega
  | n + 1 => by
    have G_l_kind := ok_l_kind (base := base) T
    have G_l_parts := ok_l_partsX (base := base) T
    have G_l_spoil := ok_l_spoil T n
    refine T.l_spoil.F.ok sc_l_spoil (fun vs H Q E h => ?_) (fun cdv A outer s H vs Q E hr h => ?_)
    · obtain ⟨v, x, F, rfl, _⟩ := h
      rfl
    · obtain ⟨v, x, F, rfl, ow, nd, hok, hd, hz, q⟩ := h
      refine ⟨_, (pss_cons (ps_set (i := 1) sc_l_spoil.nd rfl (Or.inl rfl) (pe_cd T.l_kind G_l_kind (hr.mono (by omega)) pass0 (pa_cons (pv 0) pa_nil)))
      (pss_cons (ps_for PassesOwn.never rfl (pi_list (pe_cd T.l_parts G_l_parts (hr.mono (by omega)) pass0 (pa_cons (pv 0) pa_nil))) (pg_name (i := 2) sc_l_spoil.nd rfl (Or.inl rfl)) (pss_one (ps_expr (pe_cd T.l_spoil G_l_spoil (hr.mono (by omega)) pass0 (pa_cons (pv 2) pa_nil)))))
      (pss_cons (ps_if (pt_cmpR op_eq (pv 1) pe_str (nomark _)) (pss_one (ps_expr (pe_bm PySem.F.plainAttrs_list PySem.F.slot_list_append PySem.F.type_list_append mt_append (pv 0) (pa_cons pe_str pa_nil)))) pss_nil)
      (pss_cons (ps_if (pt_cmpR op_eq (pv 1) pe_str (nomark _)) (pss_one (ps_dput (hu_of hr) (pv 0) pe_str pe_bl rfl)) pss_nil)
      (pss_one (ps_if (pt_cmpR op_eq (pv 1) pe_str (nomark _)) (pss_one (ps_expr (pe_bm PySem.F.plainAttrs_list PySem.F.slot_list_append PySem.F.type_list_append mt_append (pe_ix ix_tup (pv 0) pe_int (fun _ _ => rfl)) (pa_cons pe_str pa_nil)))) pss_nil)))))), ?_⟩
      refine ⟨_, rfl, v, x, rfl, ow.at_.rd, _, rfl, v, x, rfl, ow.at_, hok, hz, fun p xs H1 s1 e1 hm => ?_⟩
      have hdp := depth_parts x
      have hzp := sizeP x
      have fin : ∀ (F' : List Addr) (DD : Ends), OwnL H1 xs (partsV x) F' → F'.Nodup → p ∉ F' → (∀ σ H2, (∃ o, σ = [some v, some (.str (kindN x)), o]) → But F' H1 H2 → DD.nx σ H2) → ∃ W : Nat → Nat → L2.St → Hp → Prop, (∃ m, W 0 m [some v, some (.str (kindN x)), none] H1) ∧ ∀ i m σ H, W i m σ H →
          ((Itl K p).stop i H ∧ DD.nx σ H) ∨ ((Itl K p).go i H ∧ ∃ N : L2.St → Hp → Prop, (∀ σ' H', N σ' H' → ∃ m', m' < m ∧ W (i + 1) m' σ' H') ∧ ∀ x H', (Itl K p).yld i H x H' → gName 2 x σ H' fun σ2 H2 => tDrop (tCall (spSpoil n) [] E0 (tCons (tVar 2) tNil)) { DD with nx := N, ct := N, bk := DD.nx } σ2 H2) := by
        intro F' DD ol nd' hp' hnx
        refine for_list (K := K) (a := p) (xs := xs) (fun i σ H2 => (∃ o, σ = [some v, some (.str (kindN x)), o]) ∧ ∃ G1 G2, F' = G1 ++ G2 ∧ OwnL H2 (xs.drop i) ((partsV x).drop i) G2 ∧ But G1 H1 H2) ⟨⟨none, rfl⟩, [], F', rfl, ol, fun b u _ h => h⟩ (fun i σ H2 _ ⟨_, G1, G2, e, _, bt⟩ => SqL.of (bt _ _ (fun m => hp' (by rw [e]; exact List.mem_append_left _ m)) e1)) ?_ ?_
        · rintro i y σ H2 hi ⟨⟨o, rfl⟩, G1, G2, eF, ol2, bt⟩
          obtain ⟨z, F1, F2, hz', eG, oz, ol3⟩ := ol2.drop_cons hi
          have mz := List.mem_of_getElem? hz'
          have ndG : (F1 ++ F2).Nodup := by
            rw [eF, eG] at nd'
            exact (List.nodup_append.mp nd').2.1
          have nd1 := (List.nodup_append.mp ndG).1
          refine ⟨_, rfl, y, z, F1, rfl, oz, nd1, okL_mem (ok_parts hok) mz, by have := depthL_mem mz; omega, by have := sizeL_mem mz; omega, fun H3 b3 => ⟨⟨_, rfl⟩, G1 ++ F1, F2, by rw [eF, eG, List.append_assoc], ?_, bt.trans b3⟩⟩
          refine ol3.keep fun a ha => ?_
          have na : a ∉ F1 := fun m => (List.nodup_append.mp ndG).2.2 a m a ha rfl
          have := ol3.there a ha
          cases e : H2 a with
          | none => exact absurd e this
          | some u => exact b3 a u na e
        · rintro σ H2 ⟨ho, G1, G2, eF, ol2, bt⟩
          refine hnx σ H2 ho fun b u hb e => bt b u (fun m => hb (by rw [eF]; exact List.mem_append_left _ m)) e
      cases ow with
      | @lst b xs0 l F0 h r =>
        obtain rfl : b = p := by
          have : V.ref b = V.ref p := hm
          injection this
        have e0 := s1 _ _ h
        rw [e1] at e0
        cases e0
        have nd0 := List.nodup_cons.mp nd
        simp only [sizeV] at hz
        have hl := sizeL_len l
        have lx := r.at_.length
        refine ⟨b, rfl, ⟨xs, SqL.of e1⟩, fin F0 _ (r.same s1) nd0.2 nd0.1 ?_⟩
        rintro σ H2 ⟨o, rfl⟩ bt
        have e2 := bt _ _ nd0.1 e1
        refine ⟨_, rfl, rfl, _, rfl, iteT ⟨_, rfl, .inl ⟨rfl, xs, SqL.of e2⟩, b, xs, _, rfl, rfl, e2, lt_line (by omega), ?_⟩⟩
        refine ⟨_, rfl, rfl, _, rfl, iteF ⟨_, rfl, rfl, _, rfl, iteF (q _ fun c u hc e => ?_)⟩⟩
        have hc' : c ≠ b ∧ c ∉ F0 := ⟨fun z => hc (by rw [z]; exact List.mem_cons_self), fun m => hc (List.mem_cons_of_mem _ m)⟩
        rw [upd_ne hc'.1]
        exact bt _ _ hc'.2 (s1 _ _ e)
      | @rcd b kvs ks l F0 h k r =>
        obtain ⟨⟨b', kvs', ev, eh, ex⟩, hpn⟩ := hm
        cases ev
        rw [h] at eh
        cases eh
        subst ex
        have nd0 := List.nodup_cons.mp nd
        have h40 := (ok_rcd hok).2.2.1
        have lk : kvs.length = ks.length := by simpa using congrArg List.length k
        have hpF : p ∉ F0 := fun m => r.there p m hpn
        have nbp : b ≠ p := fun z => by
          rw [z, hpn] at h
          cases h
        refine ⟨p, rfl, ⟨_, SqL.of e1⟩, fin F0 _ (r.same s1) nd0.2 hpF ?_⟩
        rintro σ H2 ⟨o, rfl⟩ bt
        have e2 := bt _ _ nd0.1 (s1 _ _ h)
        refine ⟨_, rfl, rfl, _, rfl, iteF ⟨_, rfl, rfl, _, rfl, iteT ⟨_, rfl, b, _, rfl, .inl ⟨kvs, .inr "changed", e2, rfl, lt_line (by omega), rfl⟩, ?_⟩⟩⟩
        refine ⟨_, rfl, rfl, _, rfl, iteF (q _ fun c u hc e => ?_)⟩
        have hc' : c ≠ b ∧ c ∉ F0 := ⟨fun z => hc (by rw [z]; exact List.mem_cons_self), fun m => hc (List.mem_cons_of_mem _ m)⟩
        rw [upd_ne hc'.1]
        exact bt _ _ hc'.2 (s1 _ _ e)
      | @act b c o nm xs0 l F0 h g r =>
        obtain ⟨b', ev, eh⟩ := hm
        cases ev
        rw [h] at eh
        cases eh
        have e0 := s1 _ _ g
        rw [e1] at e0
        cases e0
        have nd0 := List.nodup_cons.mp nd
        have nd1 := List.nodup_cons.mp nd0.2
        have nbF : b ∉ F0 := fun m => nd0.1 (List.mem_cons_of_mem _ m)
        simp only [sizeV] at hz
        have hl := sizeL_len l
        have lx := r.at_.length
        refine ⟨p, rfl, ⟨xs, SqL.of e1⟩, fin F0 _ (r.same s1) nd1.2 nd1.1 ?_⟩
        rintro σ H2 ⟨o2, rfl⟩ bt
        have e2 := bt _ _ nd1.1 e1
        have e3 := bt _ _ nbF (s1 _ _ h)
        refine ⟨_, rfl, rfl, _, rfl, iteF ⟨_, rfl, rfl, _, rfl, iteF ⟨_, rfl, rfl, _, rfl, iteT ?_⟩⟩⟩
        refine ⟨_, rfl, b, _, 3, _, rfl, rfl, SqT.of e3, rfl, .inl ⟨rfl, xs, SqL.of e2⟩, p, xs, _, rfl, rfl, e2, lt_line (by omega), q _ fun d u hd e => ?_⟩
        have hd' : d ≠ p ∧ d ∉ F0 := ⟨fun z => hd (by rw [z]; exact List.mem_cons_of_mem _ List.mem_cons_self), fun m => hd (List.mem_cons_of_mem _ (List.mem_cons_of_mem _ m))⟩
        rw [upd_ne hd'.1]
        exact bt _ _ hd'.2 (s1 _ _ e)
      | _ =>
        obtain ⟨rfl, hpn⟩ := hm
        refine ⟨p, rfl, ⟨_, SqL.of e1⟩, fin [] _ .nil List.nodup_nil (fun h => nomatch h) ?_⟩
        rintro σ H2 ⟨o, rfl⟩ bt
        exact ⟨_, rfl, rfl, _, rfl, iteF ⟨_, rfl, rfl, _, rfl, iteF ⟨_, rfl, rfl, _, rfl, iteF (q _ fun c u hc e => bt _ _ hc (s1 _ _ e))⟩⟩⟩
end
end K19
/-! What the law draws: numbers, texts. -/
namespace K19
open PySem PySem.Spec PyProof.Rows L2
theorem sc_l_cell : FnScope nm_l_cell ["_law_script", "_law_k"] (defScope s_l_cell) := ⟨rfl, rfl, rfl, by decide +kernel, rfl, by decide +kernel, by decide +kernel⟩
theorem sc_l_start : FnScope nm_l_start ["_law_cell_here", "_law_k"] (defScope s_l_start) := ⟨rfl, rfl, rfl, by decide +kernel, rfl, by decide +kernel, by decide +kernel⟩
theorem sc_l_digit : FnScope nm_l_digit ["_law_state", "_law_many_here"] (defScope s_l_digit) := ⟨rfl, rfl, rfl, by decide +kernel, rfl, by decide +kernel, by decide +kernel⟩
theorem sc_l_text : FnScope nm_l_text ["_law_state"] (defScope s_l_text) := ⟨rfl, rfl, rfl, by decide +kernel, rfl, by decide +kernel, by decide +kernel⟩
theorem sc_l_number : FnScope nm_l_number ["_law_state"] (defScope s_l_number) := ⟨rfl, rfl, rfl, by decide +kernel, rfl, by decide +kernel, by decide +kernel⟩

/-- kept but at st -/
def SX (st : Addr) (H H' : Hp) : Prop := ∀ a u, a ≠ st → H a = some u → H' a = some u
theorem SX.refl {st : Addr} (H : Hp) : SX st H H := fun _ _ _ e => e
theorem SX.of {st : Addr} {H H' : Hp} (s : Same H H') : SX st H H' := fun a u _ e => s a u e
theorem SX.trans {st : Addr} {H H1 H2 : Hp} (s : SX st H H1) (t : SX st H1 H2) : SX st H H2 := fun a u n e => t a u n (s a u n e)
theorem SX.mut {st : Addr} {H : Hp} (u : HO) : SX st H (upd H st u) := fun a o n e => by rw [upd_ne n]; exact e
/-- the state is there -/
def Sg (st : Addr) (H : Hp) : Prop := ∃ n : Nat, H st = some (.lst [.int (n : Int)])
theorem Sg.same {st : Addr} {H H' : Hp} (h : Sg st H) (s : Same H H') : Sg st H' := let ⟨n, e⟩ := h; ⟨n, s _ _ e⟩
theorem Sg.ne {st p : Addr} {H : Hp} (h : Sg st H) (hp : H p = none) : p ≠ st := fun e => by
  obtain ⟨n, e1⟩ := h
  rw [e, e1] at hp
  cases hp
section
variable {P : Program} {w : World} {K : PySem.W.Frag} {mg : Str → Option Value} {base : Heap} {a : Ads}
def spCell (K : PySem.W.Frag) (B : Nat) : Sp := fun vs H Q _ => ∃ (b : Addr) (ns : List Int) (k : Nat), vs = [.ref b, .int k] ∧ SqL K H b (ns.map V.int) ∧ (∀ c ∈ ns, c.natAbs < 2 ^ B) ∧ ∀ c : Int, c.natAbs < 2 ^ B → Q (.int c) H
theorem ok_l_cell (T : Txt P w K mg a) (B : Nat) : FnOk P w K mg base CX0 1 a.l_cell a.l_cell_d ["_law_script", "_law_k"] (spCell K B) := by
  refine T.l_cell.F.ok sc_l_cell (fun vs H Q E h => ?_) (fun cdv A outer s H vs Q E hr h => ?_)
  · obtain ⟨b, ns, k, rfl, _⟩ := h
    rfl
  · obtain ⟨b, ns, k, rfl, hb, hn, q⟩ := h
    refine ⟨_, (pss_cons (ps_if (pt_cmpR op_lt (pv 1) (pe_callB call_len_seq rfl T.b_len (by decide +kernel) (pa_cons (pv 0) pa_nil)) (nomark _)) (pss_one (ps_ret (pe_ix ix_list (pv 0) (pv 1) (fun _ _ => rfl)))) pss_nil)
      (pss_one (ps_ret pe_int))), ?_⟩
    refine ⟨_, rfl, _, rfl, b, _, rfl, .inl hb, _, _, rfl, rfl, _, rfl, ?_⟩
    by_cases c : k < ns.length
    · refine iteD (decide_eq_true (by rw [List.length_map]; omega)) ⟨_, rfl, _, rfl, b, _, _, .int ns[k], rfl, rfl, hb, ?_, ?_⟩
      · exact atI_nat (by rw [List.getElem?_map, List.getElem?_eq_getElem c]; rfl)
      · exact q _ (hn _ (List.getElem_mem c))
    · exact iteE (decide_eq_false (by rw [List.length_map]; omega)) (q 0 (Nat.pow_pos (by decide)))
def spStart : Sp := fun vs H Q _ => ∃ (c : Int) (k : Nat), vs = [.int c, .int k] ∧ k ≤ 1000 ∧ ∀ (p : Addr) (n : Nat), H p = none → Q (.ref p) (upd H p (.lst [.int (n : Int)]))
theorem ok_l_start (T : Txt P w K mg a) : FnOk P w K mg base CX0 1 a.l_start a.l_start_d ["_law_cell_here", "_law_k"] spStart := by
  refine T.l_start.F.ok sc_l_start (fun vs H Q E h => ?_) (fun cdv A outer s H vs Q E hr h => ?_)
  · obtain ⟨c, k, rfl, _⟩ := h
    rfl
  · obtain ⟨c, k, rfl, hk, q⟩ := h
    refine ⟨_, (pss_cons (ps_set (i := 2) sc_l_start.nd rfl (Or.inl rfl) pe_int)
      (pss_cons (ps_if (pt_chain op_lt op_lt (pe_un un_neg pe_int) (pv 0) pe_int) (pss_cons (ps_set (i := 3) sc_l_start.nd rfl (Or.inl rfl) (pe_op op_mod (pe_callTy call_int1 rfl T.b_int (by decide +kernel) (pa_cons (pe_op op_add (pe_op op_mul (pv 0) pe_int) (pe_op op_mul (pe_op op_add (pv 1) pe_int) pe_int)) pa_nil)) (pv 2)))
      (pss_one (ps_ret (pe_lst (pa_cons (pe_op op_mod (pe_callTy call_int1 rfl T.b_int (by decide +kernel) (pa_cons (pe_op op_add (pe_op op_add (pe_op op_mulW (pv 3) (pv 3)) (pe_op op_mul pe_int (pv 3))) (pv 1)) pa_nil)) (pv 2)) pa_nil))))) pss_nil)
      (pss_one (ps_ret (pe_lst (pa_cons (pe_callB call_abs rfl T.b_abs (by decide +kernel) (pa_cons (pv 0) pa_nil)) pa_nil)))))), ?_⟩
    have big : tRet (tLst (tCons (tCB (fun xs H Q => ∃ i, xs = [V.int i] ∧ Q (.int (if i < 0 then -i else i)) H) (tCons (tVar 0) tNil)) tNil)) { nx := fun x H' => Q V.non H', rt := Q } [some (.int c), some (.int k), some (.int 618970019642690137449562111), none] H := by
      refine ⟨_, rfl, c, rfl, by show 1 ≤ sizeLine; decide, fun p hp => ?_⟩
      rw [abs_if]
      exact q p _ hp
    refine ⟨_, rfl, _, rfl, _, _, rfl, rfl, _, rfl, ?_⟩
    by_cases c1 : (-1000000000000000000 : Int) < c
    · refine iteD (decide_eq_true c1) ⟨_, _, rfl, rfl, _, rfl, ?_⟩
      by_cases c2 : c < (1000000000000000000 : Int)
      · refine iteD (decide_eq_true c2) ?_
        have key : ∀ (DD : Ends) (m : Int), DD.rt = Q → 0 ≤ m → m < 618970019642690137449562111 → tRet (tLst (tCons (tOp (rI (fun x j => 0 < j) fun i j => V.int (i % j)) (tCB (fun xs H Q => (∃ i, xs = [V.int i] ∧ Q (V.int i) H) ∨ ∃ k, xs = [V.bl k] ∧ Q (V.int (if k = true then 1 else 0)) H)
            (tCons (tOp (rI0 fun i j => V.int (i + j)) (tOp (rI0 fun i j => V.int (i + j)) (tOp (rI CMulW fun i j => V.int (i * j)) (tVar 3) (tVar 3)) (tOp (rI CMul fun i j => V.int (i * j)) (tC (V.int 7)) (tVar 3))) (tVar 1)) tNil)) (tVar 2)) tNil)) DD [some (.int c), some (.int k), some (.int 618970019642690137449562111), some (.int m)] H := by
          intro DD m hrt m0 m1
          have mb : m.natAbs < 2 ^ 90 := Nat.lt_of_lt_of_le (by omega : m.natAbs < 618970019642690137449562111) (by decide)
          refine ⟨_, rfl, _, rfl, _, _, rfl, rfl, wide_mul mb mb (by decide) (by decide) (by decide), _, rfl, _, _, rfl, rfl, .inl ⟨by decide, by decide⟩, _, _, rfl, rfl, _, rfl, _, _, rfl, rfl, .inl ⟨_, rfl, _, rfl, _, _, rfl, rfl, (by decide : (0 : Int) < 618970019642690137449562111), by show 1 ≤ sizeLine; decide, fun p hp => ?_⟩⟩
          have e0 := Int.emod_nonneg (m * m + 7 * m + (k : Int)) (show (618970019642690137449562111 : Int) ≠ 0 by decide)
          have := q p ((m * m + 7 * m + (k : Int)) % 618970019642690137449562111).toNat hp
          rw [Int.toNat_of_nonneg e0] at this
          show DD.rt _ _
          rw [hrt]
          exact this
        refine ⟨_, rfl, _, _, rfl, rfl, .inl ⟨by omega, by omega⟩, _, rfl, _, _, rfl, rfl, _, _, rfl, rfl, .inr ⟨by decide, by decide⟩, _, _, rfl, rfl, .inl ⟨_, rfl, _, rfl, _, _, rfl, rfl, (by decide : (0 : Int) < 618970019642690137449562111), ?_⟩⟩
        exact key _ _ rfl (Int.emod_nonneg _ (by decide)) (Int.emod_lt_of_pos _ (by decide))
      · exact iteE (decide_eq_false c2) big
    · exact iteE (decide_eq_false c1) ⟨_, rfl, iteF big⟩
theorem pick {α : Type} (xs : List α) {r : Nat} (h : r < xs.length) : ∃ v, atI xs ((r : Nat) : Int) = some v ∧ v ∈ xs :=
  ⟨xs[r], atI_nat (List.getElem?_eq_getElem h), List.getElem_mem h⟩
def spDigit : Sp := fun vs H Q _ => ∃ (st : Addr) (m : Nat), vs = [.ref st, .int (m : Int)] ∧ 1 ≤ m ∧ m < 1073741824 ∧ Sg st H ∧ ∀ (r : Nat) H', r < m → SX st H H' → Sg st H' → Q (.int (r : Int)) H'
theorem ok_l_digit (T : Txt P w K mg a) : FnOk P w K mg base CX0 1 a.l_digit a.l_digit_d ["_law_state", "_law_many_here"] spDigit := by
  refine T.l_digit.F.ok sc_l_digit (fun vs H Q E h => ?_) (fun cdv A outer s H vs Q E hr h => ?_)
  · obtain ⟨st, m, rfl, _⟩ := h
    rfl
  · obtain ⟨st, m, rfl, h1, h2, ⟨n, hs⟩, q⟩ := h
    refine ⟨_, (pss_cons (ps_set (i := 2) sc_l_digit.nd rfl (Or.inl rfl) (pe_op op_mod (pe_callTy call_int1 rfl T.b_int (by decide +kernel) (pa_cons (pe_ix ix_list (pv 0) pe_int (fun _ _ => rfl)) pa_nil)) (pv 1)))
      (pss_cons (ps_asg (pe_op op_fdiv (pe_ix ix_list (pv 0) pe_int (fun _ _ => rfl)) (pv 1)) (pg_sub (pv 0) pe_int set_list))
      (pss_one (ps_ret (pv 2))))), ?_⟩
    refine ⟨_, rfl, st, _, 0, _, rfl, rfl, SqL.of hs, rfl, .inl ⟨_, rfl, _, rfl, _, _, rfl, rfl, by show (0 : Int) < (m : Int); omega, ?_⟩⟩
    refine ⟨_, rfl, st, _, 0, _, rfl, rfl, SqL.of hs, rfl, _, rfl, _, _, rfl, rfl, ⟨by omega, by omega⟩, ?_⟩
    refine ⟨_, rfl, st, _, 0, 0, rfl, rfl, hs, rfl, _, rfl, ?_⟩
    exact q (n % m) _ (Nat.mod_lt _ (by omega)) (SX.mut _) ⟨n / m, upd_same⟩
/-- signs of a text -/
def okS (t : Str) : Bool := t.cps.all (· < 0x110000)
theorem okS_app {t u : Str} (h : okS t = true) (g : okS u = true) : okS (t ++ u) = true := by
  show (t.cps ++ u.cps).all (· < 0x110000) = true
  rw [Array.all_append, Bool.and_eq_true]
  exact ⟨h, g⟩
/-- a text that was drawn -/
def spLText : Sp := fun vs H Q _ => ∃ st, vs = [.ref st] ∧ Sg st H ∧ ∀ (t : Str) H', t.length ≤ 5 → okS t = true → SX st H H' → Sg st H' → Q (.str t) H'
theorem ok_l_text (T : Txt P w K mg a) : FnOk P w K mg base CX0 2 a.l_text a.l_text_d ["_law_state"] spLText := by
  have G_l_digit := ok_l_digit (base := base) T
  refine T.l_text.F.ok sc_l_text (fun vs H Q E h => ?_) (fun cdv A outer s H vs Q E hr h => ?_)
  · obtain ⟨st, rfl, _⟩ := h
    rfl
  · obtain ⟨st, rfl, sg, q⟩ := h
    refine ⟨_, (pss_cons (ps_set (i := 1) sc_l_text.nd rfl (Or.inl rfl) (pe_ix ix_tup (pe_tup (pa_cons pe_int (pa_cons pe_int (pa_cons pe_int (pa_cons pe_int (pa_cons pe_int (pa_cons pe_int (pa_cons pe_int (pa_cons pe_int pa_nil))))))))) (pe_cd T.l_digit G_l_digit (hr.mono (by omega)) pass0 (pa_cons (pv 0) (pa_cons pe_int pa_nil))) (fun _ _ => rfl)))
      (pss_cons (ps_set (i := 2) sc_l_text.nd rfl (Or.inl rfl) pe_str)
      (pss_cons (ps_for PassesOwn.never rfl (pi_range1 rfl T.b_range (pa_cons (pv 1) pa_nil)) (pg_name (i := 3) sc_l_text.nd rfl (Or.inl rfl)) (pss_one (ps_set (i := 2) sc_l_text.nd rfl (Or.inl rfl) (pe_op op_add_str (pv 2) (pe_ix ix_str pe_str (pe_cd T.l_digit G_l_digit (hr.mono (by omega)) pass0 (pa_cons (pv 0) (pa_cons pe_int pa_nil))) (fun _ _ => rfl))))))
      (pss_one (ps_ret (pv 2)))))), ?_⟩
    refine ⟨by show 8 ≤ sizeLine; decide, fun t ht => ?_⟩
    have s1 := same_new ht (.tup [.int 0, .int 1, .int 1, .int 2, .int 3, .int 5, .int 2, .int 1])
    refine ⟨_, rfl, st, 8, rfl, by decide, by decide, sg.same s1, fun r H2 hr2 x2 g2 => ?_⟩
    obtain ⟨v, hv, hm⟩ := pick [V.int 0, .int 1, .int 1, .int 2, .int 3, .int 5, .int 2, .int 1] hr2
    have hc : ∃ c : Nat, v = .int (c : Int) ∧ c ≤ 5 := by
      simp only [List.mem_cons, List.not_mem_nil, or_false] at hm; rcases hm with rfl | rfl | rfl | rfl | rfl | rfl | rfl | rfl
      · exact ⟨0, rfl, by decide⟩
      · exact ⟨1, rfl, by decide⟩
      · exact ⟨1, rfl, by decide⟩
      · exact ⟨2, rfl, by decide⟩
      · exact ⟨3, rfl, by decide⟩
      · exact ⟨5, rfl, by decide⟩
      · exact ⟨2, rfl, by decide⟩
      · exact ⟨1, rfl, by decide⟩
    obtain ⟨c, rfl, hc⟩ := hc
    have ht2 := x2 t _ (sg.ne ht) upd_same
    refine ⟨t, _, _, _, rfl, rfl, SqT.of ht2, hv, ?_⟩
    have x12 : SX st H H2 := (SX.of s1).trans x2
    refine ⟨_, rfl, _, rfl, ?_, ?_, ?_⟩
    · show -(2 ^ 62) ≤ ((c : Nat) : Int)
      omega
    · show ((c : Nat) : Int) < 2 ^ 62
      omega
    refine for_range (lo := 0) (n := c) (fun i σ H3 => ∃ (tx : Str) (o : Option V), σ = [some (.ref st), some (.int (c : Int)), some (.str tx), o] ∧ tx.length ≤ i ∧ okS tx = true ∧ SX st H H3 ∧ Sg st H3) ⟨"", none, rfl, Nat.le_refl _, by kernel_rfl, x12, g2⟩ ?_ ?_
    · rintro i σ H3 hi ⟨tx, o, rfl, hl, hs, x3, g3⟩
      refine ⟨_, rfl, _, rfl, st, 10, rfl, by decide, by decide, g3, fun r H4 hr4 x4 g4 => ?_⟩
      obtain ⟨ch, hch, hm⟩ := pick (("ab01-9 z,\n" : Str).cps.toList) (r := r) (by exact hr4)
      refine ⟨_, _, ch, rfl, rfl, by decide, hch, _, _, rfl, rfl, le_line (by show tx.length + 1 ≤ _; omega), _, _, rfl, ?_, okS_app hs ?_, x3.trans x4, g4⟩
      · rw [PySem.Str.length_append]
        show tx.length + 1 ≤ i + 1
        omega
      · have all : ("ab01-9 z,\n" : Str).cps.toList.all (fun c => decide (c < 0x110000)) = true := by kernel_rfl
        have := List.all_eq_true.mp all ch hm
        show (#[ch] : Array Nat).all (· < 0x110000) = true
        simpa using this
    · rintro σ H3 ⟨tx, o, rfl, hl, hs, x3, g3⟩
      exact ⟨_, rfl, q tx H3 (by omega) hs x3 g3⟩
/-- a number that was drawn -/
def spLNum : Sp := fun vs H Q _ => ∃ st, vs = [.ref st] ∧ Sg st H ∧ ∀ (i : Int) H', i.natAbs ≤ 1000000000000000000000000000000 → SX st H H' → Sg st H' → Q (.int i) H'
theorem ok_l_number (T : Txt P w K mg a) : FnOk P w K mg base CX0 2 a.l_number a.l_number_d ["_law_state"] spLNum := by
  have G_l_digit := ok_l_digit (base := base) T
  refine T.l_number.F.ok sc_l_number (fun vs H Q E h => ?_) (fun cdv A outer s H vs Q E hr h => ?_)
  · obtain ⟨st, rfl, _⟩ := h
    rfl
  · obtain ⟨st, rfl, sg, q⟩ := h
    have c30 : CPow 10 30 := ⟨by decide, by decide, by decide⟩
    have e30 : (10 : Int) ^ (30 : Int).toNat = 1000000000000000000000000000000 := by decide +kernel
    refine ⟨_, (pss_cons (ps_set (i := 1) sc_l_number.nd rfl (Or.inl rfl) (pe_cd T.l_digit G_l_digit (hr.mono (by omega)) pass0 (pa_cons (pv 0) (pa_cons pe_int pa_nil))))
      (pss_cons (ps_if (pt_cmpR op_lt (pv 1) pe_int (nomark _)) (pss_one (ps_ret (pe_op op_sub (pe_cd T.l_digit G_l_digit (hr.mono (by omega)) pass0 (pa_cons (pv 0) (pa_cons pe_int pa_nil))) pe_int))) pss_nil)
      (pss_cons (ps_if (pt_cmpR op_eq (pv 1) pe_int (nomark _)) (pss_one (ps_ret (pe_op op_sub (pe_cd T.l_digit G_l_digit (hr.mono (by omega)) pass0 (pa_cons (pv 0) (pa_cons pe_int pa_nil))) pe_int))) pss_nil)
      (pss_cons (ps_set (i := 2) sc_l_number.nd rfl (Or.inl rfl) (pe_op op_sub (pe_op op_pow pe_int pe_int) (pe_cd T.l_digit G_l_digit (hr.mono (by omega)) pass0 (pa_cons (pv 0) (pa_cons pe_int pa_nil)))))
      (pss_cons (ps_if (pt_cmpR op_eq (pv 1) pe_int (nomark _)) (pss_one (ps_ret (pv 2))) pss_nil)
      (pss_one (ps_ret (pe_op op_sub pe_int (pv 2))))))))), ?_⟩
    refine ⟨_, rfl, st, 8, rfl, by decide, by decide, sg, fun r H1 hr1 x1 g1 => ?_⟩
    refine ⟨_, rfl, _, _, rfl, rfl, _, rfl, ?_⟩
    by_cases c1 : (r : Int) < 5
    · refine iteD (decide_eq_true c1) ⟨_, rfl, st, 9, rfl, by decide, by decide, g1, fun r2 H2 hr2 x2 g2 => ⟨_, _, rfl, rfl, q _ H2 ?_ (x1.trans x2) g2⟩⟩
      omega
    · refine iteE (decide_eq_false c1) ⟨_, rfl, rfl, _, rfl, ?_⟩
      by_cases c2 : r = 5
      · refine iteD (decide_eq_true (by rw [c2]; rfl)) ⟨_, rfl, st, 2000, rfl, by decide, by decide, g1, fun r2 H2 hr2 x2 g2 => ⟨_, _, rfl, rfl, q _ H2 ?_ (x1.trans x2) g2⟩⟩
        omega
      · refine iteE (decide_eq_false fun e => c2 (by injection e with e; omega)) ⟨10, 30, rfl, rfl, c30, _, rfl, st, 3, rfl, by decide, by decide, g1, fun r2 H2 hr2 x2 g2 => ⟨_, _, rfl, rfl, ?_⟩⟩
        refine ⟨_, rfl, rfl, _, rfl, ?_⟩
        have b : ((10 : Int) ^ (30 : Int).toNat - (r2 : Int)).natAbs ≤ 1000000000000000000000000000000 := by rw [e30]; omega
        by_cases c3 : r = 6
        · exact iteD (decide_eq_true (by rw [c3]; rfl)) ⟨_, rfl, q _ H2 b (x1.trans x2) g2⟩
        · exact iteE (decide_eq_false fun e => c3 (by injection e with e; omega)) ⟨_, rfl, _, _, rfl, rfl, q _ H2 (by show (0 - ((10 : Int) ^ (30 : Int).toNat - (r2 : Int))).natAbs ≤ _; omega) (x1.trans x2) g2⟩
end
end K19
/-! What the law draws: values. -/
namespace K19
open PySem PySem.Spec PyProof.Rows L2
theorem sc_l_value : FnScope nm_l_value ["_law_state", "_law_levels"] (defScope s_l_value) := ⟨rfl, rfl, rfl, by decide +kernel, rfl, by decide +kernel, by decide +kernel⟩

mutual
/-- signs of texts, names -/
def txtV : Val → Bool
  | .txt s => okS s
  | .lst l => txtL l
  | .rcd ks l => okK ks && txtL l
  | .act _ n l => okS n && txtL l
  | .nul => true
  | .boo _ => true
  | .num _ => true
def txtL : List Val → Bool
  | [] => true
  | x :: r => txtV x && txtL r
end
/-- a value that stands there, within bounds -/
def RVal (d s : Nat) (R : Addr → HO → Prop) (v : V) : Prop := ∃ x, Rep R v x ∧ okV x = true ∧ txtV x = true ∧ depthV x ≤ d ∧ sizeV x ≤ s
theorem RVal.mono {d s : Nat} {R R' : Addr → HO → Prop} {v : V} (f : ∀ a u, R a u → R' a u) (h : RVal d s R v) : RVal d s R' v :=
  let ⟨x, r, a, b, c, e⟩ := h; ⟨x, r.mono f, a, b, c, e⟩
theorem RVal.more {d s d' s' : Nat} {R : Addr → HO → Prop} {v : V} (h : RVal d s R v) (hd : d ≤ d') (hs : s ≤ s') : RVal d' s' R v :=
  let ⟨x, r, a, b, c, e⟩ := h; ⟨x, r, a, b, Nat.le_trans c hd, Nat.le_trans e hs⟩
theorem RVal.list {d s : Nat} {R : Addr → HO → Prop} : ∀ {acc : List V}, (∀ v ∈ acc, RVal d s R v) → ∃ l, RepL R acc l ∧ okL l = true ∧ txtL l = true ∧ depthL l ≤ d ∧ sizeL l ≤ s * acc.length
  | [], _ => ⟨[], .nil, rfl, rfl, Nat.zero_le _, Nat.zero_le _⟩
  | v :: r, h => by
    obtain ⟨x, a1, a2, a3, a4, a5⟩ := h v (by simp)
    obtain ⟨l, b1, b2, b3, b4, b5⟩ := RVal.list (acc := r) fun u hu => h u (by simp [hu])
    refine ⟨x :: l, .cons a1 b1, by simp [okL, a2, b2], by simp [txtL, a3, b3], by simp only [depthL]; omega, ?_⟩
    simp only [sizeL, List.length_cons, Nat.mul_add, Nat.mul_one]
    omega
/-- heaps where the state may have changed -/
theorem AtN.sx {N : Addr → Prop} {st : Addr} {H H' : Hp} (hst : N st) (s : SX st H H') : ∀ a u, AtN N H a u → AtN N H' a u := fun a u e => ⟨s a u (fun z => e.2 (z ▸ hst)) e.1, e.2⟩
theorem NOk.sx {N : Addr → Prop} {st : Addr} {H H' : Hp} (h : NOk N H) (s : SX st H H') (g : Sg st H') : NOk N H' := fun a ha e => by
  by_cases z : a = st
  · obtain ⟨n, h1⟩ := g
    rw [z, h1] at e
    cases e
  · cases q : H a with
    | none => exact h a ha q
    | some u =>
      rw [s a u z q] at e
      cases e
theorem SX.mut2 {st : Addr} {H H' : Hp} (s : SX st H H') {D : Addr} (hD : H D = none) (u : HO) : SX st H (upd H' D u) := fun a o n e => by
  rw [upd_ne (ne_of_none e hD)]
  exact s a o n e
/-- a comprehension whose items are drawn -/
theorem lc_gen {J : It} {n : Nat} {G : Hp → Prop} {Y : Nat → V → Prop} (w : Walk J n G (fun i H x H' => H' = H ∧ Y i x)) {te : TE} {vs : List Nat} {j : Nat} {σ : L2.St} {H : Hp} {D st : Addr} {Qd : Hp → Prop} {N : Addr → Prop}
    (RV : Nat → (Addr → HO → Prop) → V → Prop) (mono : ∀ i R R' v, (∀ a u, R a u → R' a u) → RV i R v → RV i R' v)
    (hst : N st) (hN : NOk N H) (hg : Sg st H) (hD : H D = none) (hn : n ≤ 9000000) (hG : ∀ H1, SX st H H1 → G H1) (hw : ∀ y, wipe ((wipe σ vs).set j (some y)) vs = wipe σ vs)
    (hs : ∀ i y H1 (Q' : VK), i < n → SX st H H1 → Sg st H1 → NOk (fun a => N a ∨ a = D) H1 → Y i y → (∀ z H3, SX st H1 H3 → Sg st H3 → RV i (AtN (fun a => N a ∨ a = D) H3) z → Q' z H3) → te ((wipe σ vs).set j (some y)) H1 Q')
    (hd : ∀ H1 acc, SX st H H1 → Sg st H1 → H1 D = some (.lst acc) → acc.length = n → (∀ i v, acc[i]? = some v → RV i (AtN (fun a => N a ∨ a = D) H1) v) → Qd H1) :
    ∃ W : Nat → Nat → Hp → Prop, (∃ m, W 0 m (upd H D (.lst []))) ∧ ∀ i m H, W i m H →
      (J.stop i H ∧ Qd H) ∨ (J.go i H ∧ ∃ Nx : Hp → Prop, (∀ H', Nx H' → ∃ m', m' < m ∧ W (i + 1) m' H') ∧ ∀ x H', J.yld i H x H' → gName j x (wipe σ vs) H' fun σ2 H2 => wipe σ2 vs = wipe σ vs ∧ tYes σ2 H2 fun b H3 =>
        if b = true then te σ2 H3 fun z H4 => ∃ xs, H4 D = some (.lst xs) ∧ xs.length < sizeLine ∧ Nx (upd H4 D (.lst (xs ++ [z]))) else Nx H3) := by
  have neD : D ≠ st := hg.ne hD
  refine lc_it w (fun i H1 => SX st H H1 ∧ Sg st H1 ∧ NOk (fun a => N a ∨ a = D) H1 ∧ ∃ acc, H1 D = some (.lst acc) ∧ acc.length = i ∧ ∀ j v, acc[j]? = some v → RV j (AtN (fun a => N a ∨ a = D) H1) v) ⟨(SX.refl H).mut2 hD _, hg.same (same_new hD _), hN.apart hD _, [], upd_same, rfl, fun j v h => by simp at h⟩ (fun i H1 _ z => hG H1 z.1) ?_ ?_
  · rintro i y H1 H2 hi ⟨s1, g1, n1, acc, e1, el, ra⟩ ⟨rfl, hy⟩
    refine ⟨hw y, ?_⟩
    simp only [tYes, if_true]
    refine hs i y H2 _ hi s1 g1 n1 hy fun z H3 s3 g3 rz => ?_
    have e3 := s3 D _ neD e1
    have up : ∀ a u, AtN (fun a => N a ∨ a = D) H3 a u → AtN (fun a => N a ∨ a = D) (upd H3 D (.lst (acc ++ [z]))) a u := fun a u h => ⟨by rw [upd_ne fun e => h.2 (.inr e)]; exact h.1, h.2⟩
    have up1 := AtN.sx (N := fun a => N a ∨ a = D) (.inl hst) s3
    refine ⟨acc, e3, lt_line (by omega), (s1.trans s3).mut2 hD _, ?_, ?_, acc ++ [z], upd_same, by simp [el], fun j v hj => ?_⟩
    · obtain ⟨k, hk⟩ := g3
      exact ⟨k, by rw [upd_ne neD.symm]; exact hk⟩
    · intro a ha
      by_cases e : a = D
      · rw [e, upd_same]
        simp
      · rw [upd_ne e]
        exact NOk.sx n1 s3 g3 a ha
    · by_cases c : j < acc.length
      · rw [List.getElem?_append_left c] at hj
        exact mono _ _ _ _ up (mono _ _ _ _ up1 (ra j v hj))
      · have ej : j = acc.length := by
          have := (List.getElem?_eq_some_iff.mp hj).1
          simp at this
          omega
        rw [ej, List.getElem?_append_right (Nat.le_refl _), Nat.sub_self] at hj
        simp at hj
        subst hj
        rw [ej, el]
        exact mono _ _ _ _ up rz
  · rintro H1 ⟨s1, g1, n1, acc, e1, el, ra⟩
    exact hd H1 acc s1 g1 e1 el ra
theorem putK_mem {kvs : List (Key × V)} {k : Key} {v : V} {p : Key × V} (h : p ∈ putK kvs k v) : p ∈ kvs ∨ p = (k, v) := by
  unfold putK at h
  split at h
  · obtain ⟨q, hq, e⟩ := List.mem_map.mp h; split at e
    · rename_i c
      exact .inr (by rw [← e, c])
    · exact .inl (e ▸ hq)
  · exact (List.mem_append.mp h).imp id List.mem_singleton.mp
theorem putK_keys {kvs : List (Key × V)} {k : Key} {v : V} (h : (kvs.map (·.1)).Nodup) : ((putK kvs k v).map (·.1)).Nodup := by
  unfold putK
  split
  · have : (kvs.map fun kv => if kv.1 = k then (kv.1, v) else kv).map (·.1) = kvs.map (·.1) := by
      rw [List.map_map]
      refine List.map_congr_left fun kv _ => ?_
      show (if kv.1 = k then (kv.1, v) else kv).1 = kv.1
      split <;> rfl
    rw [this]
    exact h
  · rename_i c
    rw [List.map_append]
    refine List.nodup_append.mpr ⟨h, by simp, fun a ha b hb e => ?_⟩
    have hb : b = k := by simpa using hb
    rw [e, hb] at ha
    obtain ⟨q, hq, eq⟩ := List.mem_map.mp ha
    exact c (List.any_eq_true.mpr ⟨q, hq, decide_eq_true eq⟩)
theorem rcd_of : ∀ {kvs : List (Key × V)}, (∀ p ∈ kvs, ∃ nm, p.1 = Sum.inr nm ∧ nm.length ≤ 2 ∧ okS nm = true) → ∃ ks : List Str, kvs.map (·.1) = ks.map Sum.inr ∧ okK ks = true ∧ lens ks ≤ 2 * kvs.length
  | [], _ => ⟨[], rfl, rfl, Nat.zero_le _⟩
  | p :: r, h => by
    obtain ⟨nm, e, h1, h2⟩ := h p (by simp)
    obtain ⟨ks, a1, a2, a3⟩ := rcd_of (kvs := r) fun q hq => h q (by simp [hq])
    refine ⟨nm :: ks, by simp [e, a1], ?_, by simp only [lens, List.length_cons]; omega⟩
    show (okS nm && okK ks) = true
    rw [h2, a2]
    rfl
theorem four_names {v : V} (h : v ∈ [V.str "x", .str "y", .str "zz", .str ""]) : ∃ nm : Str, v = .str nm ∧ nm.length ≤ 2 ∧ okS nm = true := by
  simp only [List.mem_cons, List.not_mem_nil, or_false] at h
  rcases h with rfl | rfl | rfl | rfl
  · exact ⟨_, rfl, by decide, by kernel_rfl⟩
  · exact ⟨_, rfl, by decide, by kernel_rfl⟩
  · exact ⟨_, rfl, by decide, by kernel_rfl⟩
  · exact ⟨_, rfl, by decide, by kernel_rfl⟩
theorem two_names {v : V} (h : v ∈ [V.str "go", .str "stop2"]) : ∃ nm : Str, v = .str nm ∧ nm.length ≤ 5 ∧ okS nm = true := by
  simp only [List.mem_cons, List.not_mem_nil, or_false] at h
  rcases h with rfl | rfl
  · exact ⟨_, rfl, by decide, by kernel_rfl⟩
  · exact ⟨_, rfl, by decide, by kernel_rfl⟩
section
variable {P : Program} {w : World} {K : PySem.W.Frag} {mg : Str → Option Value} {base : Heap} {a : Ads}
def spLVal (m : Nat) : Sp := fun vs H Q _ => ∃ n N st, m = n + 1 ∧ vs = [.ref st, .int ((n : Nat) : Int)] ∧ N st ∧ NOk N H ∧ Sg st H ∧ ∀ v H', SX st H H' → Sg st H' → RVal (n + 1) (8 * 4 ^ n) (AtN N H') v → Q v H'
theorem four_pos (n : Nat) : 1 ≤ 4 ^ n := Nat.pow_pos (by decide)
theorem ok_l_value (T : Txt P w K mg a) : ∀ m : Nat, FnOk P w K mg base CX0 (m + 2) a.l_value a.l_value_d ["_law_state", "_law_levels"] (spLVal m)
  | 0 => fn_none fun vs H Q E h => by
    obtain ⟨n, N, st, h, _⟩ := h
    omega
  | m + 1 => by
    have G_l_digit := ok_l_digit (base := base) T
    have G_l_text := ok_l_text (base := base) T
    have G_l_number := ok_l_number (base := base) T
    have G_l_value := ok_l_value T m
    refine T.l_value.F.ok sc_l_value (fun vs H Q E h => ?_) (fun cdv A outer s H vs Q E hr h => ?_)
    · obtain ⟨n, N, st, _, rfl, _⟩ := h
      rfl
    · obtain ⟨n, N, st, hm, rfl, hst, hN, hg, q⟩ := h
      have hm : m = n := by omega
      subst hm
      have p4 := four_pos m
      refine ⟨_, (pss_cons (ps_set (i := 2) sc_l_value.nd rfl (Or.inl rfl) (pe_cd T.l_digit G_l_digit (hr.mono (by omega)) pass0 (pa_cons (pv 0) (pa_cons pe_int pa_nil))))
      (pss_cons (ps_if (pt_cmpR op_eq (pv 2) pe_int (nomark _)) (pss_one (ps_ret pe_non)) pss_nil)
      (pss_cons (ps_if (pt_cmpR op_eq (pv 2) pe_int (nomark _)) (pss_one (ps_ret (pe_cmpR op_eq (pe_cd T.l_digit G_l_digit (hr.mono (by omega)) pass0 (pa_cons (pv 0) (pa_cons pe_int pa_nil))) pe_int (nomark _)))) pss_nil)
      (pss_cons (ps_if (pt_cmpR op_lt (pv 2) pe_int (nomark _)) (pss_one (ps_ret (pe_cd T.l_number G_l_number (hr.mono (by omega)) pass0 (pa_cons (pv 0) pa_nil)))) pss_nil)
      (pss_cons (ps_if (PW.pt (pw_or (pt_cmpR op_lt (pv 2) pe_int (nomark _)) (pw_or1 (pt_cmpR op_eq (pv 1) pe_int (nomark _))))) (pss_one (ps_ret (pe_cd T.l_text G_l_text (hr.mono (by omega)) pass0 (pa_cons (pv 0) pa_nil)))) pss_nil)
      (pss_cons (ps_set (i := 3) sc_l_value.nd rfl (Or.inl rfl) (pe_cd T.l_digit G_l_digit (hr.mono (by omega)) pass0 (pa_cons (pv 0) (pa_cons pe_int pa_nil))))
      (pss_cons (ps_if (pt_cmpR op_lt (pv 2) pe_int (nomark _)) (pss_one (ps_ret (pe_lc (own := [("_law_k", 5)]) (g := gName 5) rfl sc_l_value.nd (pi_range1 rfl T.b_range (pa_cons (pv 3) pa_nil)) (blkOk_by (own := [("_law_k", 5)]) (N := nm_l_value) (sc := defScope s_l_value) (by decide +kernel)) (fun _ _ _ _ _ => pg_name (i := 5) sc_l_value.nd rfl (Or.inl rfl)) (fun _ _ _ _ _ => pts_nil) (fun _ _ _ _ _ => (pe_cd T.l_value G_l_value (hr.mono (by omega)) pass0 (pa_cons (pv 0) (pa_cons (pe_op op_sub (pv 1) pe_int) pa_nil))))))) pss_nil)
      (pss_cons (ps_if (pt_cmpR op_eq (pv 2) pe_int (nomark _)) (pss_cons (ps_set (i := 4) sc_l_value.nd rfl (Or.inl rfl) pe_dnewK)
      (pss_cons (ps_for PassesOwn.never rfl (pi_range1 rfl T.b_range (pa_cons (pv 3) pa_nil)) (pg_name (i := 5) sc_l_value.nd rfl (Or.inl rfl)) (pss_one (ps_dput (hu_of hr) (pv 4) (pe_ix ix_tup (pe_tup (pa_cons pe_str (pa_cons pe_str (pa_cons pe_str (pa_cons pe_str pa_nil))))) (pe_cd T.l_digit G_l_digit (hr.mono (by omega)) pass0 (pa_cons (pv 0) (pa_cons pe_int pa_nil))) (fun _ _ => rfl)) (pe_cd T.l_value G_l_value (hr.mono (by omega)) pass0 (pa_cons (pv 0) (pa_cons (pe_op op_sub (pv 1) pe_int) pa_nil))) rfl)))
      (pss_one (ps_ret (pv 4))))) pss_nil)
      (pss_cons (ps_set (i := 6) sc_l_value.nd rfl (Or.inl rfl) (pe_cd T.l_digit G_l_digit (hr.mono (by omega)) pass0 (pa_cons (pv 0) (pa_cons pe_int pa_nil))))
      (pss_cons (ps_set (i := 7) sc_l_value.nd rfl (Or.inl rfl) (pe_ix ix_tup (pe_tup (pa_cons pe_str (pa_cons pe_str pa_nil))) (pe_cd T.l_digit G_l_digit (hr.mono (by omega)) pass0 (pa_cons (pv 0) (pa_cons pe_int pa_nil))) (fun _ _ => rfl)))
      (pss_one (ps_ret (pe_tup (pa_cons pe_str (pa_cons (pv 6) (pa_cons (pv 7) (pa_cons (pe_lc (own := [("_law_k", 5)]) (g := gName 5) rfl sc_l_value.nd (pi_range1 rfl T.b_range (pa_cons (pv 3) pa_nil)) (blkOk_by (own := [("_law_k", 5)]) (N := nm_l_value) (sc := defScope s_l_value) (by decide +kernel)) (fun _ _ _ _ _ => pg_name (i := 5) sc_l_value.nd rfl (Or.inl rfl)) (fun _ _ _ _ _ => pts_nil) (fun _ _ _ _ _ => (pe_cd T.l_value G_l_value (hr.mono (by omega)) pass0 (pa_cons (pv 0) (pa_cons (pe_op op_sub (pv 1) pe_int) pa_nil))))) pa_nil))))))))))))))))), ?_⟩
      have flat : ∀ (v : V) (x : Val) H', Rep (AtN N H') v x → okV x = true → txtV x = true → depthV x ≤ 1 → sizeV x ≤ 8 → RVal (m + 1) (8 * 4 ^ m) (AtN N H') v := fun v x H' r a b c d => ⟨x, r, a, b, by omega, by omega⟩
      refine ⟨_, rfl, st, 10, rfl, by decide, by decide, hg, fun r H1 hr1 x1 g1 => ?_⟩
      refine ⟨_, rfl, rfl, _, rfl, ?_⟩
      by_cases c0 : r = 0
      · exact iteD (decide_eq_true (by rw [c0]; rfl)) (q _ H1 x1 g1 (flat _ .nul _ .nul rfl rfl (by decide) (by decide)))
      refine iteE (decide_eq_false fun e => c0 (by injection e with e; omega)) ⟨_, rfl, rfl, _, rfl, ?_⟩
      by_cases c1 : r = 1
      · refine iteD (decide_eq_true (by rw [c1]; rfl)) ⟨_, rfl, st, 2, rfl, by decide, by decide, g1, fun r2 H2 hr2 x2 g2 => ⟨rfl, ?_⟩⟩
        exact q _ H2 (x1.trans x2) g2 (flat _ (.boo _) _ (.boo _) rfl rfl (by show 1 ≤ 1; decide) (by show 1 ≤ 8; decide))
      refine iteE (decide_eq_false fun e => c1 (by injection e with e; omega)) ⟨_, rfl, _, _, rfl, rfl, _, rfl, ?_⟩
      by_cases c2 : (r : Int) < 4
      · refine iteD (decide_eq_true c2) ⟨_, rfl, st, rfl, g1, fun i H2 hi x2 g2 => ?_⟩
        exact q _ H2 (x1.trans x2) g2 (flat _ (.num i) _ (.num i) (by simp only [okV]; exact decide_eq_true hi) rfl (by show 1 ≤ 1; decide) (by show 1 ≤ 8; decide))
      have txt : ∀ (DD : Ends) (o1 : Option V), DD.rt = Q → tRet (tCall spLText [] E0 (tCons (tVar 0) tNil)) DD [some (.ref st), some (.int ((m : Nat) : Int)), some (.int (r : Int)), none, none, none, none, none] H1 := by
        intro DD o1 hrt
        refine ⟨_, rfl, st, rfl, g1, fun t H2 hl hs x2 g2 => ?_⟩
        show DD.rt _ _
        rw [hrt]
        exact q _ H2 (x1.trans x2) g2 (flat _ (.txt t) _ (.txt t) rfl hs (by show 1 ≤ 1; decide) (by simp only [sizeV]; omega))
      refine iteE (decide_eq_false c2) ⟨_, rfl, _, _, rfl, rfl, _, rfl, ?_⟩
      by_cases c3 : (r : Int) < 6
      · exact iteD (decide_eq_true c3) (iteT (txt _ none rfl))
      refine iteE (decide_eq_false c3) ⟨_, rfl, rfl, _, rfl, ?_⟩
      by_cases cm : m = 0
      · exact iteD (decide_eq_true (by rw [cm]; rfl)) (txt _ none rfl)
      refine iteE (decide_eq_false fun e => cm (by injection e with e; omega)) ?_
      obtain ⟨k, rfl⟩ : ∃ k, m = k + 1 := ⟨m - 1, by omega⟩
      have e4 : (4 : Nat) ^ (k + 1) = 4 * 4 ^ k := by rw [Nat.pow_succ, Nat.mul_comm]
      have ek : (((k + 1 : Nat) : Int) - 1) = ((k : Nat) : Int) := by omega
      have k4 := four_pos k
      refine ⟨_, rfl, st, 4, rfl, by decide, by decide, g1, fun many H2 hr2 x2 g2 => ?_⟩
      have x12 := x1.trans x2
      have n2 := NOk.sx hN x12 g2
      refine ⟨_, rfl, _, _, rfl, rfl, _, rfl, ?_⟩
      have range_ok : -(2 ^ 62) ≤ ((many : Nat) : Int) ∧ ((many : Nat) : Int) < 2 ^ 62 := ⟨by omega, by omega⟩
      by_cases c4 : (r : Int) < 8
      · refine iteD (decide_eq_true c4) ⟨_, rfl, _, rfl, range_ok.1, range_ok.2, fun D hD => ?_⟩
        refine lc_gen (N := N) (st := st) walk_range (fun _ => RVal (k + 1) (8 * 4 ^ k)) (fun _ _ _ _ f h => h.mono f) hst n2 g2 hD (by show many ≤ _; omega) (fun _ _ => trivial) (fun _ => rfl) ?_ ?_
        · intro i y H3 Q' hi x3 g3 n3 hy q'
          refine ⟨_, rfl, _, rfl, _, _, rfl, rfl, ?_⟩
          exact ⟨k, _, st, rfl, by show [V.ref st, V.int (((k + 1 : Nat) : Int) - 1)] = _; rw [ek], .inl hst, n3, g3, fun v H4 x4 g4 rv => q' v H4 x4 g4 rv⟩
        · intro H3 acc x3 g3 e3 el ra
          obtain ⟨l, a1, a2, a3, a4, a5⟩ := RVal.list (acc := acc) fun v hv => by
            obtain ⟨j, hj⟩ := List.mem_iff_getElem?.mp hv
            exact ra j v hj
          have nD : ¬ N D := fun h => n2 D h hD
          refine q _ H3 (x12.trans x3) g3 ⟨.lst l, .lst ⟨e3, nD⟩ (a1.mono fun a u e => ⟨e.1, fun z => e.2 (.inl z)⟩), a2, a3, by simp only [depthV]; omega, ?_⟩
          simp only [sizeV]
          have e5 : 8 * 4 ^ k * acc.length ≤ 8 * 4 ^ k * 3 := Nat.mul_le_mul_left _ (by rw [el]; show many ≤ 3; omega)
          omega
      refine iteE (decide_eq_false c4) ⟨_, rfl, rfl, _, rfl, ?_⟩
      by_cases c5 : r = 8
      · refine iteD (decide_eq_true (by rw [c5]; rfl)) ?_
        intro D hD
        have neD := g2.ne hD
        have nD : ¬ N D := fun h => n2 D h hD
        have x2D := (SX.refl (st := st) H2).mut2 hD (.dK [])
        refine ⟨_, rfl, _, rfl, range_ok.1, range_ok.2, ?_⟩
        refine for_range (lo := 0) (n := many) (fun i σ H3 => ∃ o, σ = [some (.ref st), some (.int ((k + 1 : Nat) : Int)), some (.int (r : Int)), some (.int (many : Int)), some (.ref D), o, none, none] ∧ SX st H2 H3 ∧ Sg st H3 ∧ NOk (fun a => N a ∨ a = D) H3 ∧ ∃ kvs, H3 D = some (.dK kvs) ∧ kvs.length ≤ i ∧ (kvs.map (·.1)).Nodup ∧ ∀ p ∈ kvs, (∃ nm, p.1 = Sum.inr nm ∧ nm.length ≤ 2 ∧ okS nm = true) ∧ RVal (k + 1) (8 * 4 ^ k) (AtN (fun a => N a ∨ a = D) H3) p.2)
          ⟨none, rfl, x2D, g2.same (same_new hD _), n2.apart hD _, [], upd_same, Nat.le_refl _, by simp, fun p h => nomatch h⟩ ?_ ?_
        · rintro i σ H3 hi ⟨o, rfl, x3, g3, n3, kvs, e3, el, nd, ra⟩
          refine ⟨_, rfl, _, rfl, _, _, rfl, rfl, ?_⟩
          refine ⟨k, (fun a => N a ∨ a = D), st, rfl, by show [V.ref st, V.int (((k + 1 : Nat) : Int) - 1)] = _; rw [ek], .inl hst, n3, g3, fun v H4 x4 g4 rv => ?_⟩
          refine ⟨_, rfl, by show 4 ≤ sizeLine; decide, fun t ht => ?_⟩
          have s5 := same_new ht (.tup [.str "x", .str "y", .str "zz", .str ""])
          refine ⟨_, rfl, st, 4, rfl, by decide, by decide, g4.same s5, fun r2 H5 hr5 x5 g5 => ?_⟩
          have e4' := x4 D _ neD e3
          have neT := g4.ne ht
          have neTD : D ≠ t := fun z => by
            rw [z, ht] at e4'
            cases e4'
          have x45 : SX st H4 H5 := (SX.of s5).trans x5
          obtain ⟨u, hu, hm⟩ := pick [V.str "x", .str "y", .str "zz", .str ""] hr5
          obtain ⟨nm, rfl, hl2, hs2⟩ := four_names hm
          have e5 := x45 D _ neD e4'
          refine ⟨t, _, _, _, rfl, rfl, SqT.of (x5 t _ neT upd_same), hu, D, _, rfl, .inl ⟨kvs, .inr nm, e5, rfl, lt_line (by omega), rfl⟩, _, rfl, ?_⟩
          have x35 := x4.trans x45
          have up1 := AtN.sx (N := fun a => N a ∨ a = D) (.inl hst) x35
          have up2 := AtN.sx (N := fun a => N a ∨ a = D) (.inl hst) x45
          have up : ∀ kv2 a u, AtN (fun a => N a ∨ a = D) H5 a u → AtN (fun a => N a ∨ a = D) (upd H5 D (.dK kv2)) a u := fun kv2 a u h => ⟨by rw [upd_ne fun e => h.2 (.inr e)]; exact h.1, h.2⟩
          refine ⟨(x3.trans x35).mut2 hD _, ?_, ?_, _, upd_same, ?_, putK_keys nd, fun p hp => ?_⟩
          · obtain ⟨k', hk'⟩ := g5
            exact ⟨k', by rw [upd_ne neD.symm]; exact hk'⟩
          · intro a ha
            by_cases e : a = D
            · rw [e, upd_same]
              simp
            · rw [upd_ne e]
              exact NOk.sx n3 x35 g5 a ha
          · have := length_putK kvs (Sum.inr nm) v
            omega
          · rcases putK_mem hp with h | h
            · exact ⟨(ra p h).1, ((ra p h).2.mono up1).mono (up _)⟩
            · rw [h]
              exact ⟨⟨nm, rfl, hl2, hs2⟩, (rv.mono up2).mono (up _)⟩
        · rintro σ H3 ⟨o, rfl, x3, g3, n3, kvs, e3, el, nd, ra⟩
          obtain ⟨ks, b1, b2, b3⟩ := rcd_of fun p hp => (ra p hp).1
          obtain ⟨l, a1, a2, a3, a4, a5⟩ := RVal.list (acc := kvs.map (·.2)) fun v hv => by
            obtain ⟨p, hp, rfl⟩ := List.mem_map.mp hv
            exact (ra p hp).2
          have lk : kvs.length = ks.length := by simpa using congrArg List.length b1
          have ll := a1.length
          rw [List.length_map] at ll a5
          have ndk : ks.Nodup := by
            rw [b1] at nd
            exact List.Pairwise.of_map (Sum.inr : Str → Key) (fun a b h e => h (congrArg _ e)) nd
          refine ⟨_, rfl, q _ H3 (x12.trans x3) g3 ⟨.rcd ks l, .rcd ⟨e3, nD⟩ b1 (a1.mono fun a u e => ⟨e.1, fun z => e.2 (.inl z)⟩), ?_, ?_, by simp only [depthV]; omega, ?_⟩⟩
          · simp only [okV, Bool.and_eq_true, decide_eq_true_eq]
            exact ⟨⟨⟨⟨ndk, by omega⟩, by omega⟩, b2⟩, a2⟩
          · simp only [txtV, b2, a3, Bool.and_self]
          · simp only [sizeV]
            have e5 : 8 * 4 ^ k * kvs.length ≤ 8 * 4 ^ k * 3 := Nat.mul_le_mul_left _ (by omega)
            omega
      refine iteE (decide_eq_false fun e => c5 (by injection e with e; omega)) ?_
      refine ⟨_, rfl, st, 3, rfl, by decide, by decide, g2, fun ow H3 hr3 x3 g3 => ?_⟩
      refine ⟨by show 2 ≤ sizeLine; decide, fun t ht => ?_⟩
      have s4 := same_new ht (.tup [.str "go", .str "stop2"])
      refine ⟨_, rfl, st, 2, rfl, by decide, by decide, g3.same s4, fun r2 H5 hr5 x5 g5 => ?_⟩
      obtain ⟨u, hu, hm2⟩ := pick [V.str "go", .str "stop2"] hr5
      obtain ⟨nm, rfl, hl2, hs2⟩ := two_names hm2
      refine ⟨t, _, _, _, rfl, rfl, SqT.of (x5 t _ (g3.ne ht) upd_same), hu, ?_⟩
      have x35 : SX st H3 H5 := (SX.of s4).trans x5
      have x15 := (x12.trans x3).trans x35
      have n5 := NOk.sx hN x15 g5
      refine ⟨_, rfl, _, rfl, _, rfl, _, rfl, range_ok.1, range_ok.2, fun D hD => ?_⟩
      refine lc_gen (N := N) (st := st) walk_range (fun _ => RVal (k + 1) (8 * 4 ^ k)) (fun _ _ _ _ f h => h.mono f) hst n5 g5 hD (by show many ≤ _; omega) (fun _ _ => trivial) (fun _ => rfl) ?_ ?_
      · intro i y H6 Q' hi x6 g6 n6 hy q'
        refine ⟨_, rfl, _, rfl, _, _, rfl, rfl, ?_⟩
        exact ⟨k, _, st, rfl, by show [V.ref st, V.int (((k + 1 : Nat) : Int) - 1)] = _; rw [ek], .inl hst, n6, g6, fun v H4 x4 g4 rv => q' v H4 x4 g4 rv⟩
      · intro H6 acc x6 g6 e6 el ra
        obtain ⟨l, a1, a2, a3, a4, a5⟩ := RVal.list (acc := acc) fun v hv => by
          obtain ⟨j, hj⟩ := List.mem_iff_getElem?.mp hv
          exact ra j v hj
        have nD : ¬ N D := fun h => n5 D h hD
        refine ⟨by show 4 ≤ sizeLine; decide, fun p hp => ?_⟩
        have x16 := x15.trans x6
        have n6 := NOk.sx hN x16 g6
        have s7 := same_new hp (.tup [.str "act", .int (ow : Int), .str nm, .ref D])
        refine q _ _ (x16.trans (SX.of s7)) (g6.same s7) ⟨.act ow nm l, .act ⟨upd_same, fun h => n6 p h hp⟩ ⟨s7 _ _ e6, nD⟩ (a1.mono fun a u e => ⟨s7 a u e.1, fun z => e.2 (.inl z)⟩), ?_, ?_, by simp only [depthV]; omega, ?_⟩
        · simp only [okV, Bool.and_eq_true, decide_eq_true_eq]
          exact ⟨a2, by omega⟩
        · simp only [txtV, hs2, a3, Bool.and_self]
        · simp only [sizeV]
          have e5 : 8 * 4 ^ k * acc.length ≤ 8 * 4 ^ k * 3 := Nat.mul_le_mul_left _ (by rw [el]; show many ≤ 3; omega)
          omega
end
end K19
/-! What the law draws: literals, leaves. -/
namespace K19
open PySem PySem.Spec PyProof.Rows L2
theorem sc_l_literal : FnScope nm_l_literal ["_law_state", "_law_want"] (defScope s_l_literal) := ⟨rfl, rfl, rfl, by decide +kernel, rfl, by decide +kernel, by decide +kernel⟩
theorem sc_l_leaf : FnScope nm_l_leaf ["_law_state", "_law_want", "_law_bound"] (defScope s_l_leaf) := ⟨rfl, rfl, rfl, by decide +kernel, rfl, by decide +kernel, by decide +kernel⟩

/-- names of an environment -/
def envN : List Str := ["n", "k", "b", "t", "l", "m", "r", "o"]
def RExp (n : Nat) (ns : List Str) (R : Addr → HO → Prop) (v : V) : Prop := ∃ e, RepE R v e ∧ wfE e ns = true ∧ depE e ≤ n + 2
theorem RExp.mono {n : Nat} {ns : List Str} {R R' : Addr → HO → Prop} {v : V} (f : ∀ a u, R a u → R' a u) (h : RExp n ns R v) : RExp n ns R' v :=
  let ⟨x, r, a, b⟩ := h; ⟨x, r.mono f, a, b⟩
theorem RExp.list {n : Nat} {ns : List Str} {R : Addr → HO → Prop} : ∀ {acc : List V}, (∀ v ∈ acc, RExp n ns R v) → ∃ es, RepEs R acc es ∧ wfEs es ns = true ∧ depEs es ≤ n + 2 ∧ es.length = acc.length
  | [], _ => ⟨[], .nil, rfl, Nat.zero_le _, rfl⟩
  | v :: r, h => by
    obtain ⟨x, a1, a2, a3⟩ := h v (by simp)
    obtain ⟨l, b1, b2, b3, b4⟩ := RExp.list (acc := r) fun u hu => h u (by simp [hu])
    exact ⟨x :: l, .cons a1 b1, by simp [wfEs, a2, b2], by simp only [depEs]; omega, by simp [b4]⟩
/-- what comes behind, shown once -/
theorem seq_rest {t1 rest : TS} {DD : Ends} {σ : L2.St} {H : Hp} (G : L2.St → Hp → Prop) (hr : ∀ σ1 H1, G σ1 H1 → rest DD σ1 H1) (hc : (∀ σ1 H1, G σ1 H1 → rest DD σ1 H1) → tSeq t1 rest DD σ H) : tSeq t1 rest DD σ H := hc hr
/-- what drawing keeps -/
structure Gn (N : Addr → Prop) (st : Addr) (H H1 : Hp) : Prop where
  h : N st
  x : SX st H H1
  g : Sg st H1
  n : NOk N H1
section
variable {N : Addr → Prop} {st : Addr} {H H1 H2 : Hp} {p : Addr} {u : HO}
theorem Gn.start (h : N st) (n : NOk N H) (g : Sg st H) : Gn N st H H := ⟨h, SX.refl H, g, n⟩
theorem Gn.step (s : Gn N st H H1) (x : SX st H1 H2) (g : Sg st H2) : Gn N st H H2 := ⟨s.h, s.x.trans x, g, NOk.sx s.n x g⟩
theorem Gn.new (s : Gn N st H H1) (hp : H1 p = none) (u : HO) : Gn N st H (upd H1 p u) := s.step (SX.of (same_new hp u)) (s.g.same (same_new hp u))
theorem Gn.free (s : Gn N st H H1) (hp : H1 p = none) : ¬ N p := fun h => s.n p h hp
theorem Gn.ne (s : Gn N st H H1) (hp : H1 p = none) : p ≠ st := s.g.ne hp
/-- what has just been made -/
theorem Gn.at_ (s : Gn N st H H1) (hp : H1 p = none) : AtN N (upd H1 p u) p u := ⟨upd_same, s.free hp⟩
theorem Gn.apart (s : Gn N st H H1) (hp : H1 p = none) (u : HO) : Gn (fun a => N a ∨ a = p) st H (upd H1 p u) := ⟨.inl s.h, (s.new hp u).x, (s.new hp u).g, s.n.apart hp u⟩
end
theorem AtN.new {N : Addr → Prop} {H1 : Hp} {p : Addr} (hp : H1 p = none) (u : HO) : ∀ a o, AtN N H1 a o → AtN N (upd H1 p u) a o := fun a o e => ⟨same_new hp u a o e.1, e.2⟩
/-- an expression with no names -/
def RLit (R : Addr → HO → Prop) (v : V) : Prop := ∃ e, RepE R v e ∧ (∀ ns, wfE e ns = true) ∧ depE e ≤ 2
section
variable {P : Program} {w : World} {K : PySem.W.Frag} {mg : Str → Option Value} {base : Heap} {a : Ads}
def spLLit : Sp := fun vs H Q _ => ∃ (N : Addr → Prop) (st : Addr) (want : Nat), vs = [.ref st, .int (want : Int)] ∧ want ≤ 5 ∧ N st ∧ NOk N H ∧ Sg st H ∧ ∀ v H', SX st H H' → Sg st H' → RLit (AtN N H') v → Q v H'
theorem ok_l_literal (T : Txt P w K mg a) : FnOk P w K mg base CX0 3 a.l_literal a.l_literal_d ["_law_state", "_law_want"] spLLit := by
  have G_l_digit := ok_l_digit (base := base) T
  have G_l_text := ok_l_text (base := base) T
  have G_l_number := ok_l_number (base := base) T
  refine T.l_literal.F.ok sc_l_literal (fun vs H Q E h => ?_) (fun cdv A outer s H vs Q E hr h => ?_)
  · obtain ⟨N, st, want, rfl, _⟩ := h
    rfl
  · obtain ⟨N, st, want, rfl, hw, hst, hN, hg, q⟩ := h
    refine ⟨_, (pss_cons (ps_if (pt_cmpR op_eq (pv 1) pe_int (nomark _)) (pss_one (ps_set (i := 1) sc_l_literal.nd rfl (Or.inl rfl) (pe_op op_add pe_int (pe_cd T.l_digit G_l_digit (hr.mono (by omega)) pass0 (pa_cons (pv 0) (pa_cons pe_int pa_nil)))))) pss_nil)
      (pss_cons (ps_if (pt_cmpR op_eq (pv 1) pe_int (nomark _)) (pss_cons (ps_set (i := 2) sc_l_literal.nd rfl (Or.inl rfl) (pe_cd T.l_number G_l_number (hr.mono (by omega)) pass0 (pa_cons (pv 0) pa_nil)))
      (pss_cons (ps_if (pt_cmpR op_lt (pv 2) pe_int (nomark _)) (pss_one (ps_ret (pe_tup (pa_cons pe_str (pa_cons (pe_tup (pa_cons pe_str (pa_cons (pe_op op_sub pe_int (pv 2)) pa_nil))) pa_nil))))) pss_nil)
      (pss_one (ps_ret (pe_tup (pa_cons pe_str (pa_cons (pv 2) pa_nil))))))) pss_nil)
      (pss_cons (ps_if (pt_cmpR op_eq (pv 1) pe_int (nomark _)) (pss_one (ps_ret (pe_ix ix_tup (pe_tup (pa_cons (pe_tup (pa_cons pe_str pa_nil)) (pa_cons (pe_tup (pa_cons pe_str pa_nil)) pa_nil))) (pe_cd T.l_digit G_l_digit (hr.mono (by omega)) pass0 (pa_cons (pv 0) (pa_cons pe_int pa_nil))) (fun _ _ => rfl)))) pss_nil)
      (pss_cons (ps_if (pt_cmpR op_eq (pv 1) pe_int (nomark _)) (pss_one (ps_ret (pe_tup (pa_cons pe_str (pa_cons (pe_cd T.l_text G_l_text (hr.mono (by omega)) pass0 (pa_cons (pv 0) pa_nil)) pa_nil))))) pss_nil)
      (pss_cons (ps_if (pt_cmpR op_eq (pv 1) pe_int (nomark _)) (pss_one (ps_ret (pe_tup (pa_cons pe_str (pa_cons (pe_lst pa_nil) pa_nil))))) pss_nil)
      (pss_one (ps_ret (pe_tup (pa_cons pe_str pa_nil))))))))), ?_⟩
    have g0 := Gn.start hst hN hg
    refine seq_rest (fun σ1 H1 => ∃ w1 : Nat, σ1 = [some (.ref st), some (.int (w1 : Int)), none] ∧ Gn N st H H1 ∧ 1 ≤ w1 ∧ w1 ≤ 5) ?_ fun rest => ?_
    · rintro σ1 H1 ⟨w1, rfl, gg, l1, l5⟩
      refine ⟨_, rfl, rfl, _, rfl, ?_⟩
      by_cases c1 : w1 = 1
      · refine iteD (decide_eq_true (by rw [c1]; rfl)) ⟨_, rfl, st, rfl, gg.g, fun i H2 hi x2 g2 => ?_⟩
        have g2' := gg.step x2 g2
        refine ⟨_, rfl, _, _, rfl, rfl, _, rfl, ?_⟩
        by_cases cn : i < 0
        · refine iteD (decide_eq_true cn) ⟨_, rfl, _, _, rfl, rfl, by show 2 ≤ sizeLine; decide, fun p hp => ⟨by show 2 ≤ sizeLine; decide, fun p2 hp2 => ?_⟩⟩
          have g3 := g2'.new hp (.tup [.str "number", .int (0 - i)])
          have g4 := g3.new hp2 (.tup [.str "minus", .ref p])
          refine q _ _ g4.x g4.g ⟨.neg (.num (0 - i)), .neg (g3.at_ hp2) (.num (AtN.new hp2 _ _ _ (g2'.at_ hp))), fun ns => ?_, by simp [depE]⟩
          simp only [wfE]; exact decide_eq_true (by omega)
        · refine iteE (decide_eq_false cn) ⟨_, rfl, by show 2 ≤ sizeLine; decide, fun p hp => ?_⟩
          have g3 := g2'.new hp (.tup [.str "number", .int i])
          refine q _ _ g3.x g3.g ⟨.num i, .num (g2'.at_ hp), fun ns => ?_, by simp [depE]⟩
          simp only [wfE]
          exact decide_eq_true hi
      refine iteE (decide_eq_false fun e => c1 (by injection e with e; omega)) ⟨_, rfl, rfl, _, rfl, ?_⟩
      by_cases c2 : w1 = 2
      · refine iteD (decide_eq_true (by rw [c2]; rfl)) ⟨by show 1 ≤ sizeLine; decide, fun p1 hp1 => ⟨by show 1 ≤ sizeLine; decide, fun p2 hp2 => ⟨by show 2 ≤ sizeLine; decide, fun p3 hp3 => ?_⟩⟩⟩
        have g1 := gg.new hp1 (.tup [.str "true"])
        have g2 := g1.new hp2 (.tup [.str "false"])
        have g3 := g2.new hp3 (.tup [.ref p1, .ref p2])
        refine ⟨_, rfl, st, 2, rfl, by decide, by decide, g3.g, fun r H4 hr4 x4 g4 => ?_⟩
        have g5 := g3.step x4 g4
        have h3 := x4 p3 _ (g2.ne hp3) upd_same
        have a1 : AtN N H4 p1 (.tup [.str "true"]) := ⟨x4 p1 _ (gg.ne hp1) (same_new hp3 _ _ _ (same_new hp2 _ _ _ upd_same)), gg.free hp1⟩
        have a2 : AtN N H4 p2 (.tup [.str "false"]) := ⟨x4 p2 _ (g1.ne hp2) (same_new hp3 _ _ _ upd_same), g1.free hp2⟩
        obtain rfl | rfl : r = 0 ∨ r = 1 := by omega
        · exact ⟨p3, _, 0, _, rfl, rfl, SqT.of h3, rfl, q _ _ g5.x g5.g ⟨.boo true, .boo true a1, fun ns => rfl, by decide⟩⟩
        · exact ⟨p3, _, 1, _, rfl, rfl, SqT.of h3, rfl, q _ _ g5.x g5.g ⟨.boo false, .boo false a2, fun ns => rfl, by decide⟩⟩
      refine iteE (decide_eq_false fun e => c2 (by injection e with e; omega)) ⟨_, rfl, rfl, _, rfl, ?_⟩
      by_cases c3 : w1 = 3
      · refine iteD (decide_eq_true (by rw [c3]; rfl)) ⟨_, rfl, st, rfl, gg.g, fun t H2 hl hs x2 g2 => ⟨by show 2 ≤ sizeLine; decide, fun p hp => ?_⟩⟩
        have g2' := gg.step x2 g2
        have g3 := g2'.new hp (.tup [.str "text", .str t])
        refine q _ _ g3.x g3.g ⟨.txt t, .txt (g2'.at_ hp), fun ns => ?_, by simp [depE]⟩
        simp only [wfE]; exact decide_eq_true (by omega)
      refine iteE (decide_eq_false fun e => c3 (by injection e with e; omega)) ⟨_, rfl, rfl, _, rfl, ?_⟩
      by_cases c4 : w1 = 4
      · refine iteD (decide_eq_true (by rw [c4]; rfl)) ⟨Nat.zero_le _, fun p1 hp1 => ⟨by show 2 ≤ sizeLine; decide, fun p2 hp2 => ?_⟩⟩
        have g1 := gg.new hp1 (.lst [])
        have g2 := g1.new hp2 (.tup [.str "list", .ref p1])
        exact q _ _ g2.x g2.g ⟨.lst [], .lst (g1.at_ hp2) (AtN.new hp2 _ _ _ (gg.at_ hp1)) .nil, fun ns => rfl, by decide⟩
      refine iteE (decide_eq_false fun e => c4 (by injection e with e; omega)) ⟨by show 1 ≤ sizeLine; decide, fun p hp => ?_⟩
      have g3 := gg.new hp (.tup [.str "null"])
      exact q _ _ g3.x g3.g ⟨.nul, .nul (gg.at_ hp), fun ns => rfl, by decide⟩
    · refine ⟨_, rfl, rfl, _, rfl, ?_⟩
      by_cases c0 : want = 0
      · refine iteD (decide_eq_true (by rw [c0]; rfl)) ⟨_, rfl, st, 5, rfl, by decide, by decide, hg, fun r H1 hr1 x1 g1 => ⟨_, _, rfl, rfl, rest _ _ ⟨1 + r, ?_, g0.step x1 g1, by omega, by omega⟩⟩⟩
        show [some (V.ref st), some (V.int (1 + (r : Int))), none] = _
        have ew : (1 : Int) + (r : Int) = ((1 + r : Nat) : Int) := by omega
        rw [ew]
      · exact iteE (decide_eq_false fun e => c0 (by injection e with e; omega)) (rest _ _ ⟨want, rfl, g0, by omega, hw⟩)
def spLLeaf : Sp := fun vs H Q _ => ∃ (N : Addr → Prop) (st : Addr) (want : Nat) (b : Addr) (bs : List Str), vs = [.ref st, .int (want : Int), .ref b] ∧ want ≤ 5 ∧ N st ∧ NOk N H ∧ Sg st H ∧ H b = some (.lst (bs.map V.str)) ∧ bs.length ≤ 20 ∧ ∀ v H', SX st H H' → Sg st H' → RExp 0 (envN ++ bs) (AtN N H') v → Q v H'
theorem bnd_ne {st b : Addr} {H : Hp} {bs : List Str} (g : Sg st H) (h : H b = some (.lst (bs.map V.str))) : b ≠ st := fun e => by
  obtain ⟨n, hn⟩ := g
  rw [e, hn] at h
  have := Option.some.inj h
  injection this with this
  cases bs with
  | nil => cases this
  | cons x r => cases this
theorem ok_l_leaf (T : Txt P w K mg a) : FnOk P w K mg base CX0 4 a.l_leaf a.l_leaf_d ["_law_state", "_law_want", "_law_bound"] spLLeaf := by
  have G_l_digit := ok_l_digit (base := base) T
  have G_l_literal := ok_l_literal (base := base) T
  refine T.l_leaf.F.ok sc_l_leaf (fun vs H Q E h => ?_) (fun cdv A outer s H vs Q E hr h => ?_)
  · obtain ⟨N, st, want, b, bs, rfl, _⟩ := h
    rfl
  · obtain ⟨N, st, want, b, bs, rfl, hw, hst, hN, hg, hb, hl, q⟩ := h
    refine ⟨_, (pss_cons (ps_set (i := 3) sc_l_leaf.nd rfl (Or.inl rfl) (pe_cd T.l_digit G_l_digit (hr.mono (by omega)) pass0 (pa_cons (pv 0) (pa_cons pe_int pa_nil))))
      (pss_cons (ps_if (pt_cmpR op_eq (pv 3) pe_int (nomark _)) (pss_one (ps_ret (pe_cd T.l_literal G_l_literal (hr.mono (by omega)) pass0 (pa_cons (pv 0) (pa_cons (pv 1) pa_nil))))) pss_nil)
      (pss_cons (ps_if (PW.pt (pw_and (pt_cmpR op_eq (pv 3) pe_int (nomark _)) (pw_and1 (pt_cmpR op_gt (pe_callB call_len_seq rfl T.b_len (by decide +kernel) (pa_cons (pv 2) pa_nil)) pe_int (nomark _))))) (pss_one (ps_ret (pe_tup (pa_cons pe_str (pa_cons (pe_ix ix_list (pv 2) (pe_cd T.l_digit G_l_digit (hr.mono (by omega)) pass0 (pa_cons (pv 0) (pa_cons (pe_callB call_len_seq rfl T.b_len (by decide +kernel) (pa_cons (pv 2) pa_nil)) pa_nil))) (fun _ _ => rfl)) pa_nil))))) pss_nil)
      (pss_cons (ps_set (i := 4) sc_l_leaf.nd rfl (Or.inl rfl) (pe_ix ix_tup (pe_tup (pa_cons (pe_tup (pa_cons pe_str (pa_cons pe_str (pa_cons pe_str (pa_cons pe_str (pa_cons pe_str (pa_cons pe_str (pa_cons pe_str (pa_cons pe_str pa_nil))))))))) (pa_cons (pe_tup (pa_cons pe_str (pa_cons pe_str pa_nil))) (pa_cons (pe_tup (pa_cons pe_str pa_nil)) (pa_cons (pe_tup (pa_cons pe_str pa_nil)) (pa_cons (pe_tup (pa_cons pe_str (pa_cons pe_str pa_nil))) (pa_cons (pe_tup (pa_cons pe_str (pa_cons pe_str pa_nil))) pa_nil))))))) (pv 1) (fun _ _ => rfl)))
      (pss_one (ps_ret (pe_tup (pa_cons pe_str (pa_cons (pe_ix ix_tup (pv 4) (pe_cd T.l_digit G_l_digit (hr.mono (by omega)) pass0 (pa_cons (pv 0) (pa_cons (pe_callB call_len_seq rfl T.b_len (by decide +kernel) (pa_cons (pv 4) pa_nil)) pa_nil))) (fun _ _ => rfl)) pa_nil))))))))), ?_⟩
    have g0 := Gn.start hst hN hg
    have neb := bnd_ne hg hb
    refine ⟨_, rfl, st, 3, rfl, by decide, by decide, hg, fun r H1 hr1 x1 g1 => ?_⟩
    have gg := g0.step x1 g1
    have hb1 := x1 b _ neb hb
    refine ⟨_, rfl, rfl, _, rfl, ?_⟩
    by_cases c0 : r = 0
    · refine iteD (decide_eq_true (by rw [c0]; rfl)) ⟨_, rfl, _, rfl, N, st, want, rfl, hw, hst, gg.n, g1, fun v H2 x2 g2 rv => ?_⟩
      obtain ⟨e, r1, r2, r3⟩ := rv
      exact q v H2 (x1.trans x2) g2 ⟨e, r1, r2 _, r3⟩
    refine iteE (decide_eq_false fun e => c0 (by injection e with e; omega)) ?_
    unfold tNext
    dsimp only
    refine seq_rest (fun σ1 H2 => σ1 = [some (.ref st), some (.int (want : Int)), some (.ref b), some (.int (r : Int)), none] ∧ H2 = H1) ?_ fun rest => ?_
    · rintro σ1 H2 ⟨rfl, rfl⟩
      refine ⟨by show 8 ≤ sizeLine; decide, fun p0 hp0 => ⟨by show 2 ≤ sizeLine; decide, fun p1 hp1 => ⟨by show 1 ≤ sizeLine; decide, fun p2 hp2 => ⟨by show 1 ≤ sizeLine; decide, fun p3 hp3 => ⟨by show 2 ≤ sizeLine; decide, fun p4 hp4 => ⟨by show 2 ≤ sizeLine; decide, fun p5 hp5 => ⟨by show 6 ≤ sizeLine; decide, fun p6 hp6 => ?_⟩⟩⟩⟩⟩⟩⟩
      have k0 := gg.new hp0 (.tup [.str "n", .str "k", .str "b", .str "t", .str "l", .str "m", .str "r", .str "o"])
      have k1 := k0.new hp1 (.tup [.str "n", .str "k"])
      have k2 := k1.new hp2 (.tup [.str "b"])
      have k3 := k2.new hp3 (.tup [.str "t"])
      have k4 := k3.new hp4 (.tup [.str "l", .str "m"])
      have k5 := k4.new hp5 (.tup [.str "r", .str "o"])
      have k6 := k5.new hp6 (.tup [.ref p0, .ref p1, .ref p2, .ref p3, .ref p4, .ref p5])
      have e5 := same_new hp6 (.tup [.ref p0, .ref p1, .ref p2, .ref p3, .ref p4, .ref p5]) _ _ (upd_same (a := p5) (o := .tup [.str "r", .str "o"]))
      have d5 := (same_new hp5 (.tup [.str "r", .str "o"])).trans (same_new hp6 (.tup [.ref p0, .ref p1, .ref p2, .ref p3, .ref p4, .ref p5]))
      have e4 := d5 _ _ (upd_same (a := p4) (o := .tup [.str "l", .str "m"]))
      have d4 := (same_new hp4 (.tup [.str "l", .str "m"])).trans d5
      have e3 := d4 _ _ (upd_same (a := p3) (o := .tup [.str "t"]))
      have d3 := (same_new hp3 (.tup [.str "t"])).trans d4
      have e2 := d3 _ _ (upd_same (a := p2) (o := .tup [.str "b"]))
      have d2 := (same_new hp2 (.tup [.str "b"])).trans d3
      have e1 := d2 _ _ (upd_same (a := p1) (o := .tup [.str "n", .str "k"]))
      have d1 := (same_new hp1 (.tup [.str "n", .str "k"])).trans d2
      have e0 := d1 _ _ (upd_same (a := p0) (o := .tup [.str "n", .str "k", .str "b", .str "t", .str "l", .str "m", .str "r", .str "o"]))
      have e6 := upd_same (H := upd (upd (upd (upd (upd (upd H2 p0 (.tup [.str "n", .str "k", .str "b", .str "t", .str "l", .str "m", .str "r", .str "o"])) p1 (.tup [.str "n", .str "k"])) p2 (.tup [.str "b"])) p3 (.tup [.str "t"])) p4 (.tup [.str "l", .str "m"])) p5 (.tup [.str "r", .str "o"])) (a := p6) (o := .tup [.ref p0, .ref p1, .ref p2, .ref p3, .ref p4, .ref p5])
      generalize upd (upd (upd (upd (upd (upd (upd H2 p0 (.tup [.str "n", .str "k", .str "b", .str "t", .str "l", .str "m", .str "r", .str "o"])) p1 (.tup [.str "n", .str "k"])) p2 (.tup [.str "b"])) p3 (.tup [.str "t"])) p4 (.tup [.str "l", .str "m"])) p5 (.tup [.str "r", .str "o"])) p6 (.tup [.ref p0, .ref p1, .ref p2, .ref p3, .ref p4, .ref p5]) = H3 at *
      obtain ⟨pt, L, hpick, hL, hne, hin⟩ : ∃ (pt : Addr) (L : List Str), atI [V.ref p0, .ref p1, .ref p2, .ref p3, .ref p4, .ref p5] ((want : Nat) : Int) = some (.ref pt) ∧ H3 pt = some (.tup (L.map V.str)) ∧ (1 ≤ L.length ∧ L.length ≤ 8) ∧ ∀ s ∈ L, s ∈ envN := by
        obtain rfl | rfl | rfl | rfl | rfl | rfl : want = 0 ∨ want = 1 ∨ want = 2 ∨ want = 3 ∨ want = 4 ∨ want = 5 := by omega
        · exact ⟨p0, ["n", "k", "b", "t", "l", "m", "r", "o"], rfl, e0, by decide, by decide⟩
        · exact ⟨p1, ["n", "k"], rfl, e1, by decide, by decide⟩
        · exact ⟨p2, ["b"], rfl, e2, by decide, by decide⟩
        · exact ⟨p3, ["t"], rfl, e3, by decide, by decide⟩
        · exact ⟨p4, ["l", "m"], rfl, e4, by decide, by decide⟩
        · exact ⟨p5, ["r", "o"], rfl, e5, by decide, by decide⟩
      refine ⟨_, rfl, p6, _, _, _, rfl, rfl, SqT.of e6, hpick, ?_⟩
      refine ⟨_, rfl, _, rfl, _, rfl, pt, _, rfl, .inr (SqT.of hL), st, L.length, by rw [List.length_map]; rfl, hne.1, by omega, k6.g, fun r2 H4 hr4 x4 g4 => ?_⟩
      obtain ⟨u, hu, hm⟩ := pick (L.map V.str) (r := r2) (by rw [List.length_map]; exact hr4)
      obtain ⟨nm, hnm, rfl⟩ := List.mem_map.mp hm
      have k7 := k6.step x4 g4
      have hpt : pt ≠ st := fun e => by
        obtain ⟨n, hn⟩ := k6.g
        rw [e, hn] at hL
        cases hL
      refine ⟨pt, _, _, _, rfl, rfl, SqT.of (x4 pt _ hpt hL), hu, by show 2 ≤ sizeLine; decide, fun p hp => ?_⟩
      have k8 := k7.new hp (.tup [.str "name", .str nm])
      refine q _ _ k8.x k8.g ⟨.name nm, .name (k7.at_ hp), ?_, by simp [depE]⟩
      simp only [wfE]
      exact decide_eq_true (List.mem_append_left _ (hin nm hnm))
    · refine ⟨_, rfl, rfl, _, rfl, ?_⟩
      by_cases c1 : r = 1
      · refine iteD (decide_eq_true (by rw [c1]; rfl)) ⟨_, rfl, b, _, rfl, .inl (SqL.of hb1), _, _, rfl, rfl, _, rfl, ?_⟩
        by_cases c2 : bs.length = 0
        · exact iteE (decide_eq_false (by rw [List.length_map]; omega)) (rest _ _ ⟨rfl, rfl⟩)
        · refine iteD (decide_eq_true (by rw [List.length_map]; omega)) ?_
          refine ⟨_, rfl, _, rfl, _, rfl, b, _, rfl, .inl (SqL.of hb1), st, bs.length, by rw [List.length_map]; rfl, by omega, by omega, gg.g, fun r2 H4 hr4 x4 g4 => ?_⟩
          obtain ⟨u, hu, hm⟩ := pick (bs.map V.str) (r := r2) (by rw [List.length_map]; exact hr4)
          obtain ⟨nm, hnm, rfl⟩ := List.mem_map.mp hm
          have k7 := gg.step x4 g4
          refine ⟨b, _, _, _, rfl, rfl, SqL.of (x4 b _ neb hb1), hu, by show 2 ≤ sizeLine; decide, fun p hp => ?_⟩
          have k8 := k7.new hp (.tup [.str "name", .str nm])
          refine q _ _ k8.x k8.g ⟨.name nm, .name (k7.at_ hp), ?_, by simp [depE]⟩
          simp only [wfE]
          exact decide_eq_true (List.mem_append_right _ hnm)
      · exact iteE (decide_eq_false fun e => c1 (by injection e with e; omega)) (iteF (rest _ _ ⟨rfl, rfl⟩))
end
end K19
/-! What the law draws: functions, rows of expressions. -/
namespace K19
open PySem PySem.Spec PyProof.Rows L2
theorem sc_l_function : FnScope nm_l_function ["_law_state", "_law_levels", "_law_want", "_law_bound"] (defScope s_l_function) := ⟨rfl, rfl, rfl, by decide +kernel, rfl, by decide +kernel, by decide +kernel⟩
theorem sc_l_many : FnScope nm_l_many ["_law_state", "_law_levels", "_law_bound"] (defScope s_l_many) := ⟨rfl, rfl, rfl, by decide +kernel, rfl, by decide +kernel, by decide +kernel⟩

def gN (i : Nat) : Str := "g" ++ Str.ofString (toString (i : Int))
def BOk (n : Nat) (bs : List Str) : Prop := bs.length + n ≤ 5 ∧ ∀ s ∈ bs, ∃ j, n ≤ j ∧ j ≤ 4 ∧ s = gN j
theorem BOk.down {n m : Nat} {bs : List Str} (h : BOk n bs) (l : m ≤ n) : BOk m bs := ⟨by have := h.1; omega, fun s hs => let ⟨j, a, b, c⟩ := h.2 s hs; ⟨j, by omega, b, c⟩⟩
section
variable {P : Program} {w : World} {K : PySem.W.Frag} {mg : Str → Option Value} {base : Heap} {a : Ads}
def spLExp (m : Nat) : Sp := fun vs H Q _ => ∃ (n : Nat) (N : Addr → Prop) (st : Addr) (want : Nat) (b : Addr) (bs : List Str), m = n + 1 ∧ vs = [.ref st, .int (n : Int), .int (want : Int), .ref b] ∧ want ≤ 5 ∧ N st ∧ NOk N H ∧ Sg st H ∧ H b = some (.lst (bs.map V.str)) ∧ BOk n bs ∧ n ≤ 4 ∧
  ∀ v H', SX st H H' → Sg st H' → RExp n (envN ++ bs) (AtN N H') v → Q v H'
def spLMany (n : Nat) : Sp := fun vs H Q _ => ∃ (N : Addr → Prop) (st : Addr) (b : Addr) (bs : List Str), vs = [.ref st, .int (n : Int), .ref b] ∧ N st ∧ NOk N H ∧ Sg st H ∧ H b = some (.lst (bs.map V.str)) ∧ BOk n bs ∧ n ≤ 4 ∧
  ∀ D acc H', SX st H H' → Sg st H' → AtN N H' D (.lst acc) → acc.length ≤ 3 → (∀ v ∈ acc, RExp n (envN ++ bs) (AtN N H') v) → Q (.ref D) H'
theorem ok_l_many (T : Txt P w K mg a) {n k : Nat} (hk : 3 ≤ k) (G_l_expression : FnOk P w K mg base CX0 k a.l_expression a.l_expression_d ["_law_state", "_law_levels", "_law_want", "_law_bound"] (spLExp (n + 1))) : FnOk P w K mg base CX0 (k + 1) a.l_many a.l_many_d ["_law_state", "_law_levels", "_law_bound"] (spLMany n) := by
  have G_l_digit := ok_l_digit (base := base) T
  refine T.l_many.F.ok sc_l_many (fun vs H Q E h => ?_) (fun cdv A outer s H vs Q E hr h => ?_)
  · obtain ⟨N, st, b, bs, rfl, _⟩ := h
    rfl
  · obtain ⟨N, st, b, bs, rfl, hst, hN, hg, hb, bo, hn, q⟩ := h
    refine ⟨_, (pss_one (ps_ret (pe_lc (own := [("_law_k", 3)]) (g := gName 3) rfl sc_l_many.nd (pi_range1 rfl T.b_range (pa_cons (pe_cd T.l_digit G_l_digit (hr.mono (by omega)) pass0 (pa_cons (pv 0) (pa_cons pe_int pa_nil))) pa_nil)) (blkOk_by (own := [("_law_k", 3)]) (N := nm_l_many) (sc := defScope s_l_many) (by decide +kernel)) (fun _ _ _ _ _ => pg_name (i := 3) sc_l_many.nd rfl (Or.inl rfl)) (fun _ _ _ _ _ => pts_nil) (fun _ _ _ _ _ => (pe_cd T.l_expression G_l_expression (hr.mono (by omega)) pass0 (pa_cons (pv 0) (pa_cons (pv 1) (pa_cons (pe_cd T.l_digit G_l_digit (hr.mono (by omega)) pass0 (pa_cons (pv 0) (pa_cons pe_int pa_nil))) (pa_cons (pv 2) pa_nil))))))))), ?_⟩
    have g0 := Gn.start hst hN hg
    have neb := bnd_ne hg hb
    refine ⟨_, rfl, st, 4, rfl, by decide, by decide, hg, fun r H1 hr1 x1 g1 => ?_⟩
    have gg := g0.step x1 g1
    refine ⟨_, rfl, by omega, by omega, fun D hD => ?_⟩
    have hb1 := x1 b _ neb hb
    refine lc_gen (N := N) (st := st) walk_range (fun _ => RExp n (envN ++ bs)) (fun _ _ _ _ f h => h.mono f) hst gg.n g1 hD (by show r ≤ _; omega) (fun _ _ => trivial) (fun _ => rfl) ?_ ?_
    · intro i y H3 Q' hi x3 g3 n3 hy q'
      refine ⟨_, rfl, _, rfl, _, rfl, st, 4, rfl, by decide, by decide, g3, fun r2 H4 hr4 x4 g4 => ?_⟩
      have n4 := NOk.sx n3 x4 g4
      exact ⟨_, rfl, n, _, st, r2, b, bs, rfl, rfl, by omega, .inl hst, n4, g4, (x3.trans x4) b _ neb hb1, bo, hn, fun v H5 x5 g5 rv => q' v H5 (x4.trans x5) g5 rv⟩
    · intro H3 acc x3 g3 e3 el ra
      have nD := gg.free hD
      refine q D acc H3 (x1.trans x3) g3 ⟨e3, nD⟩ (by rw [el]; show r ≤ 3; omega) fun v hv => ?_
      obtain ⟨j, hj⟩ := List.mem_iff_getElem?.mp hv
      exact (ra j v hj).mono fun a u e => ⟨e.1, fun z => e.2 (.inl z)⟩
end
end K19
/-! What the law draws: functions. -/
namespace K19
open PySem PySem.Spec PyProof.Rows L2

theorem Gn.put {N : Addr → Prop} {st : Addr} {H H1 : Hp} {p : Addr} (s : Gn N st H H1) (hp : H p = none) (ne : p ≠ st) (u : HO) : Gn N st H (upd H1 p u) :=
  ⟨s.h, s.x.mut2 hp u, let ⟨k, e⟩ := s.g; ⟨k, by rw [upd_ne ne.symm]; exact e⟩, fun a ha => by
    by_cases e : a = p
    · rw [e, upd_same]
      simp
    · rw [upd_ne e]
      exact s.n a ha⟩
section
variable {P : Program} {w : World} {K : PySem.W.Frag} {mg : Str → Option Value} {base : Heap} {a : Ads}
def spLFun (n : Nat) : Sp := fun vs H Q _ => ∃ (N : Addr → Prop) (st : Addr) (want : Nat) (b : Addr) (bs : List Str), vs = [.ref st, .int (n : Int), .int (want : Int), .ref b] ∧ want ≤ 5 ∧ N st ∧ NOk N H ∧ Sg st H ∧ H b = some (.lst (bs.map V.str)) ∧ BOk n bs ∧ n ≤ 4 ∧
  ∀ v H', SX st H H' → Sg st H' → RExp (n + 1) (envN ++ bs) (AtN N H') v → Q v H'
def nmF (L : List Fn) : List V := L.map fun f => V.str f.name
theorem ok_l_function (T : Txt P w K mg a) {n k : Nat} (hk : 3 ≤ k) (G_l_expression : FnOk P w K mg base CX0 k a.l_expression a.l_expression_d ["_law_state", "_law_levels", "_law_want", "_law_bound"] (spLExp (n + 1))) : FnOk P w K mg base CX0 (k + 1) a.l_function a.l_function_d ["_law_state", "_law_levels", "_law_want", "_law_bound"] (spLFun n) := by
  have G_l_digit := ok_l_digit (base := base) T
  refine T.l_function.F.ok sc_l_function (fun vs H Q E h => ?_) (fun cdv A outer s H vs Q E hr h => ?_)
  · obtain ⟨N, st, want, b, bs, rfl, _⟩ := h
    rfl
  · obtain ⟨N, st, want, b, bs, rfl, hw, hst, hN, hg, hb, bo, hn, q⟩ := h
    refine ⟨_, (pss_cons (ps_set (i := 4) sc_l_function.nd rfl (Or.inl rfl) (pe_tup (pa_cons (pe_tup (pa_cons pe_str (pa_cons pe_str pa_nil))) (pa_cons (pe_tup (pa_cons pe_str (pa_cons pe_str (pa_cons pe_str (pa_cons pe_str pa_nil))))) (pa_cons (pe_tup (pa_cons pe_str pa_nil)) (pa_cons (pe_tup (pa_cons pe_str (pa_cons pe_str pa_nil))) (pa_cons (pe_tup (pa_cons pe_str (pa_cons pe_str pa_nil))) (pa_cons (pe_tup (pa_cons pe_str pa_nil)) pa_nil))))))))
      (pss_cons (ps_set (i := 5) sc_l_function.nd rfl (Or.inl rfl) (pe_ix ix_tup (pe_ix ix_tup (pv 4) (pv 2) (fun _ _ => rfl)) (pe_cd T.l_digit G_l_digit (hr.mono (by omega)) pass0 (pa_cons (pv 0) (pa_cons (pe_callB call_len_seq rfl T.b_len (by decide +kernel) (pa_cons (pe_ix ix_tup (pv 4) (pv 2) (fun _ _ => rfl)) pa_nil)) pa_nil))) (fun _ _ => rfl)))
      (pss_cons (ps_set (i := 6) sc_l_function.nd rfl (Or.inl rfl) (pe_dget (hu_of hr) (pe_disp (pps_cons pe_str (pe_lst (pa_cons (pe_op op_add pe_int (pe_cd T.l_digit G_l_digit (hr.mono (by omega)) pass0 (pa_cons (pv 0) (pa_cons pe_int pa_nil)))) pa_nil)) (pps_cons pe_str (pe_lst (pa_cons (pe_cd T.l_digit G_l_digit (hr.mono (by omega)) pass0 (pa_cons (pv 0) (pa_cons pe_int pa_nil))) pa_nil)) (pps_cons pe_str (pe_lst (pa_cons pe_int (pa_cons pe_int (pa_cons (pv 2) pa_nil)))) (pps_cons pe_str (pe_lst (pa_cons pe_int pa_nil)) (pps_cons pe_str (pe_lst (pa_cons pe_int (pa_cons pe_int pa_nil))) (pps_cons pe_str (pe_lst (pa_cons pe_int (pa_cons pe_int pa_nil))) pps_nil)))))) (by rfl) (by rfl) (fun z => by cases z) (by decide)) (pv 5) (fun _ _ => rfl)))
      (pss_one (ps_ret (pe_tup (pa_cons pe_str (pa_cons (pv 5) (pa_cons (pe_lc (own := [("_law_kind_here", 7)]) (g := gName 7) rfl sc_l_function.nd (pi_list (pv 6)) (blkOk_by (own := [("_law_kind_here", 7)]) (N := nm_l_function) (sc := defScope s_l_function) (by decide +kernel)) (fun _ _ _ _ _ => pg_name (i := 7) sc_l_function.nd rfl (Or.inl rfl)) (fun _ _ _ _ _ => pts_nil) (fun _ _ _ _ _ => (pe_cd T.l_expression G_l_expression (hr.mono (by omega)) pass0 (pa_cons (pv 0) (pa_cons (pv 1) (pa_cons (pv 7) (pa_cons (pv 3) pa_nil))))))) pa_nil))))))))), ?_⟩
    have g0 := Gn.start hst hN hg
    have neb := bnd_ne hg hb
    refine ⟨by show 2 ≤ sizeLine; decide, fun p0 hp0 => ⟨by show 4 ≤ sizeLine; decide, fun p1 hp1 => ⟨by show 1 ≤ sizeLine; decide, fun p2 hp2 => ⟨by show 2 ≤ sizeLine; decide, fun p3 hp3 => ⟨by show 2 ≤ sizeLine; decide, fun p4 hp4 => ⟨by show 1 ≤ sizeLine; decide, fun p5 hp5 => ⟨by show 6 ≤ sizeLine; decide, fun p6 hp6 => ?_⟩⟩⟩⟩⟩⟩⟩
    have k0 := g0.new hp0 (.tup [.str "get", .str "text"])
    have k1 := k0.new hp1 (.tup [.str "length", .str "min", .str "max", .str "get"])
    have k2 := k1.new hp2 (.tup [.str "get"])
    have k3 := k2.new hp3 (.tup [.str "text", .str "get"])
    have k4 := k3.new hp4 (.tup [.str "keys", .str "get"])
    have k5 := k4.new hp5 (.tup [.str "get"])
    have k6 := k5.new hp6 (.tup [.ref p0, .ref p1, .ref p2, .ref p3, .ref p4, .ref p5])
    have d6 := same_new hp6 (.tup [.ref p0, .ref p1, .ref p2, .ref p3, .ref p4, .ref p5])
    have e5 := d6 _ _ (upd_same (a := p5) (o := .tup [.str "get"]))
    have d5 := (same_new hp5 (.tup [.str "get"])).trans d6
    have e4 := d5 _ _ (upd_same (a := p4) (o := .tup [.str "keys", .str "get"]))
    have d4 := (same_new hp4 (.tup [.str "keys", .str "get"])).trans d5
    have e3 := d4 _ _ (upd_same (a := p3) (o := .tup [.str "text", .str "get"]))
    have d3 := (same_new hp3 (.tup [.str "text", .str "get"])).trans d4
    have e2 := d3 _ _ (upd_same (a := p2) (o := .tup [.str "get"]))
    have d2 := (same_new hp2 (.tup [.str "get"])).trans d3
    have e1 := d2 _ _ (upd_same (a := p1) (o := .tup [.str "length", .str "min", .str "max", .str "get"]))
    have d1 := (same_new hp1 (.tup [.str "length", .str "min", .str "max", .str "get"])).trans d2
    have e0 := d1 _ _ (upd_same (a := p0) (o := .tup [.str "get", .str "text"]))
    have d0 := (same_new hp0 (.tup [.str "get", .str "text"])).trans d1
    have hb3 := d0 b _ hb
    obtain ⟨H3, hH3⟩ : ∃ H3, H3 = upd (upd (upd (upd (upd (upd (upd H p0 (.tup [.str "get", .str "text"])) p1 (.tup [.str "length", .str "min", .str "max", .str "get"])) p2 (.tup [.str "get"])) p3 (.tup [.str "text", .str "get"])) p4 (.tup [.str "keys", .str "get"])) p5 (.tup [.str "get"])) p6 (.tup [.ref p0, .ref p1, .ref p2, .ref p3, .ref p4, .ref p5]) := ⟨_, rfl⟩
    have e6 : H3 p6 = some (.tup [.ref p0, .ref p1, .ref p2, .ref p3, .ref p4, .ref p5]) := by rw [hH3]; exact upd_same
    rw [← hH3] at e0 e1 e2 e3 e4 e5 hb3 k6 ⊢
    clear hH3 d0 d1 d2 d3 d4 d5 d6
    obtain ⟨pt, L, hpick, hL, hne⟩ : ∃ (pt : Addr) (L : List Fn), atI [V.ref p0, .ref p1, .ref p2, .ref p3, .ref p4, .ref p5] ((want : Nat) : Int) = some (.ref pt) ∧ H3 pt = some (.tup (nmF L)) ∧ (1 ≤ L.length ∧ L.length ≤ 8) := by
      obtain rfl | rfl | rfl | rfl | rfl | rfl : want = 0 ∨ want = 1 ∨ want = 2 ∨ want = 3 ∨ want = 4 ∨ want = 5 := by omega
      · exact ⟨p0, [.get, .text], rfl, e0, by decide⟩
      · exact ⟨p1, [.length, .min, .max, .get], rfl, e1, by decide⟩
      · exact ⟨p2, [.get], rfl, e2, by decide⟩
      · exact ⟨p3, [.text, .get], rfl, e3, by decide⟩
      · exact ⟨p4, [.keys, .get], rfl, e4, by decide⟩
      · exact ⟨p5, [.get], rfl, e5, by decide⟩
    have hpt : pt ≠ st := fun e => by
      obtain ⟨n, hn⟩ := k6.g
      rw [e, hn] at hL
      cases hL
    refine ⟨_, rfl, _, rfl, p6, _, _, _, rfl, rfl, SqT.of e6, hpick, ?_⟩
    refine ⟨_, rfl, _, rfl, _, rfl, p6, _, _, _, rfl, rfl, SqT.of e6, hpick, pt, _, rfl, .inr (SqT.of hL), st, L.length, by show _ = [V.ref st, V.int ((L.length : Nat) : Int)]; rw [nmF, List.length_map]; rfl, hne.1, by omega, k6.g, fun r2 H4 hr4 x4 g4 => ?_⟩
    obtain ⟨u, hu, hm⟩ := pick (nmF L) (r := r2) (by rw [nmF, List.length_map]; exact hr4)
    obtain ⟨f, hf, rfl⟩ := List.mem_map.mp hm
    have k7 := k6.step x4 g4
    refine ⟨pt, _, _, _, rfl, rfl, SqT.of (x4 pt _ hpt hL), hu, ?_⟩
    have hb4 := x4 b _ neb hb3
    -- the kinds
    intro p hp
    have m0 := k7.new hp (.dK [])
    have nep := k7.ne hp
    refine ⟨_, rfl, st, 3, rfl, by decide, by decide, m0.g, fun r3 K1 hr3 y1 h1 => ⟨_, _, rfl, rfl, by show 1 ≤ sizeLine; decide, fun a1 ha1 => ?_⟩⟩
    have m1 := m0.step y1 h1
    have m2 := m1.new ha1 (.lst [.int ((3 : Int) + (r3 : Int))])
    refine ⟨_, rfl, st, 4, rfl, by decide, by decide, m2.g, fun r4 K3 hr4' y3 h3 => ⟨by show 1 ≤ sizeLine; decide, fun a2 ha2 => ?_⟩⟩
    have m3 := m2.step y3 h3
    have m4 := m3.new ha2 (.lst [.int (r4 : Int)])
    refine ⟨_, rfl, by show 3 ≤ sizeLine; decide, fun a3 ha3 => ?_⟩
    have m5 := m4.new ha3 (.lst [.int 0, .int 0, .int (want : Int)])
    refine ⟨by show 1 ≤ sizeLine; decide, fun a4 ha4 => ?_⟩
    have m6 := m5.new ha4 (.lst [.int 5])
    refine ⟨by show 2 ≤ sizeLine; decide, fun a5 ha5 => ?_⟩
    have m7 := m6.new ha5 (.lst [.int 1, .int 1])
    refine ⟨by show 2 ≤ sizeLine; decide, fun a6 ha6 => ?_⟩
    have m8 := m7.new ha6 (.lst [.int 1, .int 1])
    have c6 := same_new ha6 (.lst [.int 1, .int 1])
    have f6 := upd_same (H := upd (upd (upd (upd K3 a2 (.lst [.int (r4 : Int)])) a3 (.lst [.int 0, .int 0, .int (want : Int)])) a4 (.lst [.int 5])) a5 (.lst [.int 1, .int 1])) (a := a6) (o := .lst [.int 1, .int 1])
    have f5 := c6 _ _ (upd_same (a := a5) (o := .lst [.int 1, .int 1]))
    have c5 := (same_new ha5 (.lst [.int 1, .int 1])).trans c6
    have f4 := c5 _ _ (upd_same (a := a4) (o := .lst [.int 5]))
    have c4 := (same_new ha4 (.lst [.int 5])).trans c5
    have f3 := c4 _ _ (upd_same (a := a3) (o := .lst [.int 0, .int 0, .int (want : Int)]))
    have c3 := (same_new ha3 (.lst [.int 0, .int 0, .int (want : Int)])).trans c4
    have f2 := c3 _ _ (upd_same (a := a2) (o := .lst [.int (r4 : Int)]))
    have c2 := (same_new ha2 (.lst [.int (r4 : Int)])).trans c3
    have f1 := c2 _ _ (y3 a1 _ (m1.ne ha1) (upd_same (a := a1) (o := .lst [.int ((3 : Int) + (r3 : Int))])))
    have c1 : SX st K1 _ := (SX.of (same_new ha1 (.lst [.int ((3 : Int) + (r3 : Int))]))).trans (y3.trans (SX.of c2))
    have fp := c1 p _ nep (y1 p _ nep (upd_same (a := p) (o := .dK [])))
    have hb8 := c1 b _ neb (y1 b _ neb (same_new hp (.dK []) _ _ hb4))
    generalize upd (upd (upd (upd (upd K3 a2 (.lst [.int (r4 : Int)])) a3 (.lst [.int 0, .int 0, .int (want : Int)])) a4 (.lst [.int 5])) a5 (.lst [.int 1, .int 1])) a6 (.lst [.int 1, .int 1]) = K8 at m8 f1 f2 f3 f4 f5 f6 c1 fp hb8 ⊢
    refine ⟨fp, [(Sum.inr "length", .ref a1), (Sum.inr "text", .ref a2), (Sum.inr "get", .ref a3), (Sum.inr "keys", .ref a4), (Sum.inr "min", .ref a5), (Sum.inr "max", .ref a6)], rfl, by show 6 ≤ 15; decide, ?_⟩
    obtain ⟨af, W, neaf2, hv, hW, hlen, hle⟩ : ∃ (af : Addr) (W : List Nat), af ≠ st ∧ valV (mergeK [] [(Sum.inr "length", .ref a1), (Sum.inr "text", .ref a2), (Sum.inr "get", .ref a3), (Sum.inr "keys", .ref a4), (Sum.inr "min", .ref a5), (Sum.inr "max", .ref a6)]) (Sum.inr f.name : Key) = some (V.ref af) ∧ K8 af = some (.lst (W.map fun n => V.int ((n : Nat) : Int))) ∧ W.length = f.arity ∧ ∀ w ∈ W, w ≤ 5 := by
      cases f with
      | length => exact ⟨a1, [3 + r3], m1.ne ha1, by kernel_rfl, f1, rfl, fun w hw => by rw [List.mem_singleton.mp hw]; omega⟩
      | text => exact ⟨a2, [r4], m3.ne ha2, by kernel_rfl, f2, rfl, fun w hw => by rw [List.mem_singleton.mp hw]; omega⟩
      | get => exact ⟨a3, [0, 0, want], m4.ne ha3, by kernel_rfl, f3, rfl, fun w hw' => by
          simp only [List.mem_cons, List.not_mem_nil, or_false] at hw'
          omega⟩
      | keys => exact ⟨a4, [5], m5.ne ha4, by kernel_rfl, f4, rfl, fun w hw => by rw [List.mem_singleton.mp hw]; omega⟩
      | min => exact ⟨a5, [1, 1], m6.ne ha5, by kernel_rfl, f5, rfl, fun w hw' => by
          simp only [List.mem_cons, List.not_mem_nil, or_false] at hw'
          omega⟩
      | max => exact ⟨a6, [1, 1], m7.ne ha6, by kernel_rfl, f6, rfl, fun w hw' => by
          simp only [List.mem_cons, List.not_mem_nil, or_false] at hw'
          omega⟩
    generalize mergeK [] [(Sum.inr "length", V.ref a1), (Sum.inr "text", .ref a2), (Sum.inr "get", .ref a3), (Sum.inr "keys", .ref a4), (Sum.inr "min", .ref a5), (Sum.inr "max", .ref a6)] = kvm at hv ⊢
    have neaf : af ≠ p := fun e => by
      rw [e, fp] at hW
      cases hW
    have hp0' : H p = none := by
      cases e : H p with
      | none => rfl
      | some u =>
        rw [k7.x p u nep e] at hp
        cases hp
    have m9 := m8.put hp0' nep (.dK kvm)
    have hW9 : (upd K8 p (.dK kvm)) af = some (.lst (W.map fun n => V.int ((n : Nat) : Int))) := (upd_ne neaf).trans hW
    have nebp : b ≠ p := fun e => by
      rw [e, fp] at hb8
      cases hb8
    have hb9 : (upd K8 p (.dK kvm)) b = some (.lst (bs.map V.str)) := (upd_ne nebp).trans hb8
    refine ⟨_, rfl, p, .ref af, rfl, .inl ⟨kvm, .inr f.name, .inl upd_same, rfl, hv.symm⟩, ?_⟩
    generalize upd K8 p (.dK kvm) = K9 at m9 hW9 hb9 ⊢
    have wl : W.length ≤ 3 := by
      rw [hlen]
      cases f <;> decide
    refine ⟨_, rfl, _, rfl, af, rfl, ⟨_, SqL.of hW9⟩, fun D hD => ?_⟩
    refine lc_gen (N := N) (st := st) walk_list (fun _ => RExp n (envN ++ bs)) (fun _ _ _ _ f h => h.mono f) hst m9.n m9.g hD (by rw [List.length_map]; omega) (fun H5 x5 => SqL.of (x5 af _ neaf2 hW9)) (fun _ => rfl) ?_ ?_
    · intro i y H5 Q' hi x5 g5 n5 hy q'
      rw [List.getElem?_map] at hy
      obtain ⟨w1, hw1, rfl⟩ := Option.map_eq_some_iff.mp hy
      exact ⟨_, rfl, _, rfl, _, rfl, _, rfl, n, _, st, w1, b, bs, rfl, rfl, hle w1 (List.mem_of_getElem? hw1), .inl hst, n5, g5, x5 b _ neb hb9, bo, hn, fun v H6 x6 g6 rv => q' v H6 x6 g6 rv⟩
    · intro H5 acc x5 g5 e5 el ra
      have nD := m9.free hD
      obtain ⟨es, b1, b2, b3, b4⟩ := RExp.list (acc := acc) fun v hv => by
        obtain ⟨j, hj⟩ := List.mem_iff_getElem?.mp hv
        exact ra j v hj
      refine ⟨by show 3 ≤ sizeLine; decide, fun t ht => ?_⟩
      have m10 := m9.step x5 g5
      have m11 := m10.new ht (.tup [.str "function", .str f.name, .ref D])
      refine q _ _ m11.x m11.g ⟨.fn f es, .fn (m10.at_ ht) (AtN.new ht _ _ _ ⟨e5, nD⟩) (b1.mono fun a u e => AtN.new ht _ a u ⟨e.1, fun z => e.2 (.inl z)⟩), ?_, by simp only [depE]; omega⟩
      simp only [wfE, Bool.and_eq_true, decide_eq_true_eq]
      exact ⟨by rw [b4, el, List.length_map, hlen], b2⟩
end
end K19
/-! What the law draws: made things, signs. -/
namespace K19
open PySem PySem.Spec PyProof.Rows L2
theorem sc_l_made_of : FnScope nm_l_made_of ["_law_state", "_law_levels", "_law_want", "_law_bound"] (defScope s_l_made_of) := ⟨rfl, rfl, rfl, by decide +kernel, rfl, by decide +kernel, by decide +kernel⟩

theorem gN_inj {i j : Nat} (hi : i ≤ 4) (hj : j ≤ 4) (h : gN i = gN j) : i = j := by
  have all : ∀ i ∈ List.range 5, ∀ j ∈ List.range 5, gN i = gN j → i = j := by decide +kernel
  exact all i (List.mem_range.mpr (by omega)) j (List.mem_range.mpr (by omega)) h
theorem gN_env {i : Nat} (hi : i ≤ 4) : gN i ∉ envN := by
  have all : ∀ i ∈ List.range 5, gN i ∉ envN := by decide +kernel
  exact all i (List.mem_range.mpr (by omega))
theorem gN_len {i : Nat} (hi : i ≤ 4) : (Str.ofString (toString (i : Int))).length ≤ 40 := numT_len (by rw [Int.natAbs_natCast]; exact Nat.le_trans hi (by decide))
theorem BOk.add {n : Nat} {bs : List Str} (h : BOk (n + 1) bs) (hn : n ≤ 4) : BOk n (bs ++ [gN n]) := ⟨by have := h.1; simp; omega, fun s hs => by
  rcases List.mem_append.mp hs with m | m
  · obtain ⟨j, a, b, c⟩ := h.2 s m
    exact ⟨j, by omega, b, c⟩
  · exact ⟨n, Nat.le_refl n, hn, List.mem_singleton.mp m⟩⟩
theorem BOk.fresh {n : Nat} {bs : List Str} (h : BOk (n + 1) bs) (hn : n ≤ 4) : gN n ∉ envN ++ bs := fun m => by
  rcases List.mem_append.mp m with m | m
  · exact gN_env hn m
  · obtain ⟨j, a, b, c⟩ := h.2 _ m
    have := gN_inj hn b c
    omega
theorem seq_rest3 {t0 t1 t2 rest : TS} {DD : Ends} {σ : L2.St} {H : Hp} (G : L2.St → Hp → Prop) (hr : ∀ σ1 H1, G σ1 H1 → rest DD σ1 H1) (hc : (∀ σ1 H1, G σ1 H1 → rest DD σ1 H1) → tSeq t0 (tSeq t1 (tSeq t2 rest)) DD σ H) : tSeq t0 (tSeq t1 (tSeq t2 rest)) DD σ H := hc hr
/-- a pair of a name and an expression -/
def RPair (n : Nat) (ns : List Str) (nm : Str) (R : Addr → HO → Prop) (v : V) : Prop := ∃ t u, v = .ref t ∧ R t (.tup [.str nm, u]) ∧ RExp n ns R u
theorem RPair.mono {n : Nat} {ns : List Str} {nm : Str} {R R' : Addr → HO → Prop} {v : V} (f : ∀ a u, R a u → R' a u) (h : RPair n ns nm R v) : RPair n ns nm R' v :=
  let ⟨t, u, a, b, c⟩ := h; ⟨t, u, a, f _ _ b, c.mono f⟩
theorem RPair.list {n : Nat} {ns : List Str} {R : Addr → HO → Prop} : ∀ {acc : List V} {L : List Str}, acc.length = L.length → (∀ (i : Nat) v, acc[i]? = some v → ∃ nm, L[i]? = some nm ∧ RPair n ns nm R v) → ∃ es, RepP R acc L es ∧ wfEs es ns = true ∧ depEs es ≤ n + 2 ∧ es.length = acc.length
  | [], [], _, _ => ⟨[], .nil, rfl, Nat.zero_le _, rfl⟩
  | [], _ :: _, differ, _ => by simp at differ
  | _ :: _, [], differ, _ => by simp at differ
  | v :: r, s :: L, hl, h => by
    obtain ⟨nm, e, t, u, rfl, b, x, a1, a2, a3⟩ := h 0 v rfl
    cases e
    obtain ⟨l, b1, b2, b3, b4⟩ := RPair.list (acc := r) (L := L) (by simpa using hl) fun i w hw => by simpa using h (i + 1) w (by simpa using hw)
    exact ⟨x :: l, .cons b a1 b1, by simp [wfEs, a2, b2], by simp only [depEs]; omega, by simp [b4]⟩
section
variable {P : Program} {w : World} {K : PySem.W.Frag} {mg : Str → Option Value} {base : Heap} {a : Ads}
def spLMof (n : Nat) : Sp := fun vs H Q _ => ∃ (N : Addr → Prop) (st : Addr) (want : Nat) (b : Addr) (bs : List Str), vs = [.ref st, .int (n : Int), .int (want : Int), .ref b] ∧ want ≤ 5 ∧ N st ∧ NOk N H ∧ Sg st H ∧ H b = some (.lst (bs.map V.str)) ∧ BOk (n + 1) bs ∧ n ≤ 4 ∧
  ∀ v H', SX st H H' → Sg st H' → RExp (n + 1) (envN ++ bs) (AtN N H') v → Q v H'
theorem ok_l_made_of (T : Txt P w K mg a) {n k : Nat} (hk : 3 ≤ k) (G_l_expression : FnOk P w K mg base CX0 k a.l_expression a.l_expression_d ["_law_state", "_law_levels", "_law_want", "_law_bound"] (spLExp (n + 1))) : FnOk P w K mg base CX0 (k + 2) a.l_made_of a.l_made_of_d ["_law_state", "_law_levels", "_law_want", "_law_bound"] (spLMof n) := by
  have G_l_digit := ok_l_digit (base := base) T
  have G_l_many := ok_l_many (base := base) T hk G_l_expression
  refine T.l_made_of.F.ok sc_l_made_of (fun vs H Q E h => ?_) (fun cdv A outer s H vs Q E hr h => ?_)
  · obtain ⟨N, st, want, b, bs, rfl, _⟩ := h
    rfl
  · obtain ⟨N, st, want, b, bs, rfl, hw, hst, hN, hg, hb, bo, hn, q⟩ := h
    refine ⟨_, (pss_cons (ps_if (pt_cmpR op_eq (pv 2) pe_int (nomark _)) (pss_cons (ps_if (pt_cmpR op_eq (pe_cd T.l_digit G_l_digit (hr.mono (by omega)) pass0 (pa_cons (pv 0) (pa_cons pe_int pa_nil))) pe_int (nomark _)) (pss_one (ps_ret (pe_tup (pa_cons pe_str (pa_cons (pe_cd T.l_many G_l_many (hr.mono (by omega)) pass0 (pa_cons (pv 0) (pa_cons (pv 1) (pa_cons (pv 3) pa_nil)))) pa_nil))))) pss_nil)
      (pss_cons (ps_set (i := 4) sc_l_made_of.nd rfl (Or.inl rfl) (pe_op op_add_str pe_str (pe_callTy call_str_int rfl T.b_str (by decide +kernel) (pa_cons (pv 1) pa_nil))))
      (pss_cons (ps_set (i := 5) sc_l_made_of.nd rfl (Or.inl rfl) pe_non)
      (pss_cons (ps_if (pt_cmpR op_eq (pe_cd T.l_digit G_l_digit (hr.mono (by omega)) pass0 (pa_cons (pv 0) (pa_cons pe_int pa_nil))) pe_int (nomark _)) (pss_one (ps_set (i := 5) sc_l_made_of.nd rfl (Or.inl rfl) (pe_cd T.l_expression G_l_expression (hr.mono (by omega)) pass0 (pa_cons (pv 0) (pa_cons (pv 1) (pa_cons pe_int (pa_cons (pe_op op_cat (pv 3) (pe_lst (pa_cons (pv 4) pa_nil))) pa_nil))))))) pss_nil)
      (pss_cons (ps_set (i := 6) sc_l_made_of.nd rfl (Or.inl rfl) (pe_cd T.l_expression G_l_expression (hr.mono (by omega)) pass0 (pa_cons (pv 0) (pa_cons (pv 1) (pa_cons (pe_cd T.l_digit G_l_digit (hr.mono (by omega)) pass0 (pa_cons (pv 0) (pa_cons pe_int pa_nil))) (pa_cons (pe_op op_cat (pv 3) (pe_lst (pa_cons (pv 4) pa_nil))) pa_nil))))))
      (pss_one (ps_ret (pe_tup (pa_cons pe_str (pa_cons (pv 6) (pa_cons (pv 4) (pa_cons (pe_cd T.l_expression G_l_expression (hr.mono (by omega)) pass0 (pa_cons (pv 0) (pa_cons (pv 1) (pa_cons pe_int (pa_cons (pv 3) pa_nil))))) (pa_cons (pv 5) pa_nil))))))))))))) pss_nil)
      (pss_cons (ps_if (pt_cmpR op_eq (pe_cd T.l_digit G_l_digit (hr.mono (by omega)) pass0 (pa_cons (pv 0) (pa_cons pe_int pa_nil))) pe_int (nomark _)) (pss_one (ps_ret (pe_tup (pa_cons pe_str (pa_cons pe_str (pa_cons (pe_cd T.l_many G_l_many (hr.mono (by omega)) pass0 (pa_cons (pv 0) (pa_cons (pv 1) (pa_cons (pv 3) pa_nil)))) pa_nil)))))) pss_nil)
      (pss_cons (ps_set (i := 7) sc_l_made_of.nd rfl (Or.inl rfl) (pe_ix ix_tup (pe_tup (pa_cons (pe_tup (pa_cons pe_str pa_nil)) (pa_cons (pe_tup (pa_cons pe_str (pa_cons pe_str pa_nil))) (pa_cons (pe_tup (pa_cons pe_str (pa_cons pe_str pa_nil))) (pa_cons (pe_tup pa_nil) pa_nil))))) (pe_cd T.l_digit G_l_digit (hr.mono (by omega)) pass0 (pa_cons (pv 0) (pa_cons pe_int pa_nil))) (fun _ _ => rfl)))
      (pss_one (ps_ret (pe_tup (pa_cons pe_str (pa_cons (pe_lc (own := [("_law_name", 4)]) (g := gName 4) rfl sc_l_made_of.nd (pi_tup (pv 7)) (blkOk_by (own := [("_law_name", 4)]) (N := nm_l_made_of) (sc := defScope s_l_made_of) (by decide +kernel)) (fun _ _ _ _ _ => pg_name (i := 4) sc_l_made_of.nd rfl (Or.inl rfl)) (fun _ _ _ _ _ => pts_nil) (fun _ _ _ _ _ => (pe_tup (pa_cons (pv 4) (pa_cons (pe_cd T.l_expression G_l_expression (hr.mono (by omega)) pass0 (pa_cons (pv 0) (pa_cons (pv 1) (pa_cons (pe_cd T.l_digit G_l_digit (hr.mono (by omega)) pass0 (pa_cons (pv 0) (pa_cons pe_int pa_nil))) (pa_cons (pv 3) pa_nil))))) pa_nil))))) pa_nil)))))))), ?_⟩
    have g0 := Gn.start hst hN hg
    have neb := bnd_ne hg hb
    have bo1 := bo.down (Nat.le_succ n)
    refine ⟨_, rfl, rfl, _, rfl, ?_⟩
    by_cases c4 : want = 4
    · refine iteD (decide_eq_true (by rw [c4]; rfl)) ⟨_, rfl, st, 2, rfl, by decide, by decide, hg, fun r H1 hr1 x1 g1 => ⟨rfl, _, rfl, ?_⟩⟩
      have k1 := g0.step x1 g1
      by_cases c0 : r = 0
      · refine iteD (decide_eq_true (by rw [c0]; rfl)) ⟨_, rfl, _, rfl, _, rfl, N, st, b, bs, rfl, hst, k1.n, k1.g, k1.x b _ neb hb, bo1, hn, fun D acc H2 x2 g2 hD hl ra => ⟨by show 2 ≤ sizeLine; decide, fun t ht => ?_⟩⟩
        have k2 := k1.step x2 g2
        have k3 := k2.new ht (.tup [.str "list", .ref D])
        obtain ⟨es, b1, b2, b3, b4⟩ := RExp.list ra
        refine q _ _ k3.x k3.g ⟨.lst es, .lst (k2.at_ ht) (AtN.new ht _ _ _ hD) (b1.mono (AtN.new ht _)), ?_, by simp only [depE]; omega⟩
        simp only [wfE, Bool.and_eq_true, decide_eq_true_eq]
        exact ⟨by omega, b2⟩
      refine iteE (decide_eq_false fun e => c0 (by injection e with e; omega)) ?_
      have ln := gN_len hn
      refine ⟨_, rfl, _, rfl, log_small (by rw [Int.natAbs_natCast]; exact Nat.le_trans hn (by decide)), _, _, rfl, rfl, le_line (by show 1 + _ ≤ _; omega), ?_⟩
      -- the name; the condition
      have bnew : ∀ {H2 : Hp} {p1 p2 : Addr}, Gn N st H H2 → (h1 : H2 p1 = none) → (h2 : (upd H2 p1 (.lst [.str (gN n)])) p2 = none) → (upd (upd H2 p1 (.lst [.str (gN n)])) p2 (.lst (bs.map V.str ++ [.str (gN n)]))) p2 = some (.lst ((bs ++ [gN n]).map V.str)) ∧ Gn N st H (upd (upd H2 p1 (.lst [.str (gN n)])) p2 (.lst (bs.map V.str ++ [.str (gN n)]))) := fun gg h1 h2 => ⟨by rw [upd_same, List.map_append]; rfl, (gg.new h1 _).new h2 _⟩
      have bl := bo.1
      refine seq_rest3 (fun σ1 H2 => ∃ wv, σ1 = [some (.ref st), some (.int (n : Int)), some (.int (want : Int)), some (.ref b), some (.str (gN n)), some wv, none, none] ∧ Gn N st H H2 ∧ (wv = .non ∨ RExp n (envN ++ (bs ++ [gN n])) (AtN N H2) wv)) ?_ fun rest => ?_
      · rintro σ1 H2 ⟨wv, rfl, k2, hwv⟩
        refine ⟨_, rfl, _, rfl, _, rfl, st, 4, rfl, by decide, by decide, k2.g, fun r3 H3 hr3 x3 g3 => ⟨_, rfl, _, rfl, by show 1 ≤ sizeLine; decide, fun p1 hp1 => ⟨b, p1, _, _, rfl, rfl, same_new hp1 _ _ _ ((k2.step x3 g3).x b _ neb hb), upd_same, le_line (by rw [List.length_map]; show bs.length + 1 ≤ _; omega), fun p2 hp2 => ?_⟩⟩⟩
        have k3 := k2.step x3 g3
        obtain ⟨eb2, k4⟩ := bnew k3 hp1 hp2
        have s34 := (same_new hp1 (.lst [.str (gN n)])).trans (same_new hp2 (.lst (bs.map V.str ++ [.str (gN n)])))
        generalize upd (upd H3 p1 (.lst [.str (gN n)])) p2 (.lst (bs.map V.str ++ [.str (gN n)])) = H4 at eb2 k4 s34 ⊢
        refine ⟨n, N, st, r3, p2, bs ++ [gN n], rfl, rfl, by omega, hst, k4.n, k4.g, eb2, bo.add hn, hn, fun gv H5 x5 g5 rg => ?_⟩
        have k5 := k4.step x5 g5
        refine ⟨_, rfl, _, rfl, _, rfl, _, rfl, _, rfl, n, N, st, 4, b, bs, rfl, rfl, by decide, hst, k5.n, k5.g, k5.x b _ neb hb, bo1, hn, fun lv H6 x6 g6 rl => ⟨_, rfl, by show 5 ≤ sizeLine; decide, fun t ht => ?_⟩⟩
        have k6 := k5.step x6 g6
        have k7 := k6.new ht (.tup [.str "gather", gv, .str (gN n), lv, wv])
        have x25 : SX st H2 H6 := ((x3.trans (SX.of s34)).trans x5).trans x6
        obtain ⟨eg, a1, a2, a3⟩ := rg.mono (AtN.sx hst x6)
        obtain ⟨el, b1, b2, b3⟩ := rl
        have app : envN ++ (bs ++ [gN n]) = (envN ++ bs) ++ [gN n] := (List.append_assoc _ _ _).symm
        rw [app] at a2
        have fr := bo.fresh hn
        rcases hwv with e | hwv
        · subst e
          refine q _ _ k7.x k7.g ⟨.gat eg (gN n) el, .gat (k6.at_ ht) (a1.mono (AtN.new ht _)) (b1.mono (AtN.new ht _)), ?_, by simp only [depE]; omega⟩
          simp only [wfE, Bool.and_eq_true, decide_eq_true_eq]
          exact ⟨⟨fr, a2⟩, b2⟩
        · obtain ⟨ew, c1, c2, c3⟩ := hwv.mono (AtN.sx hst x25)
          rw [app] at c2
          refine q _ _ k7.x k7.g ⟨.gatIf eg (gN n) el ew, .gatIf (k6.at_ ht) (a1.mono (AtN.new ht _)) (b1.mono (AtN.new ht _)) (c1.mono (AtN.new ht _)), ?_, by simp only [depE]; omega⟩
          simp only [wfE, Bool.and_eq_true, decide_eq_true_eq]
          exact ⟨⟨⟨fr, a2⟩, b2⟩, c2⟩
      · refine ⟨_, rfl, st, 2, rfl, by decide, by decide, k1.g, fun r2 H2 hr2 x2 g2 => ⟨rfl, _, rfl, ?_⟩⟩
        have k2 := k1.step x2 g2
        by_cases c1 : r2 = 1
        · refine iteD (decide_eq_true (by rw [c1]; rfl)) ⟨_, rfl, _, rfl, _, rfl, _, rfl, by show 1 ≤ sizeLine; decide, fun p1 hp1 => ⟨b, p1, _, _, rfl, rfl, same_new hp1 _ _ _ (k2.x b _ neb hb), upd_same, le_line (by rw [List.length_map]; show bs.length + 1 ≤ _; omega), fun p2 hp2 => ?_⟩⟩
          obtain ⟨eb2, k4⟩ := bnew k2 hp1 hp2
          refine ⟨n, N, st, 2, p2, bs ++ [gN n], rfl, rfl, by decide, hst, k4.n, k4.g, eb2, bo.add hn, hn, fun wv H5 x5 g5 rw' => ?_⟩
          exact rest _ _ ⟨wv, rfl, k4.step x5 g5, .inr rw'⟩
        · exact iteE (decide_eq_false fun e => c1 (by injection e with e; omega)) (rest _ _ ⟨.non, rfl, k2, .inl rfl⟩)
    · refine iteE (decide_eq_false fun e => c4 (by injection e with e; omega)) ⟨_, rfl, st, 2, rfl, by decide, by decide, hg, fun r H1 hr1 x1 g1 => ⟨rfl, _, rfl, ?_⟩⟩
      have k1 := g0.step x1 g1
      by_cases c0 : r = 0
      · refine iteD (decide_eq_true (by rw [c0]; rfl)) ⟨_, rfl, _, rfl, _, rfl, N, st, b, bs, rfl, hst, k1.n, k1.g, k1.x b _ neb hb, bo1, hn, fun D acc H2 x2 g2 hD hl ra => ⟨by show 3 ≤ sizeLine; decide, fun t ht => ?_⟩⟩
        have k2 := k1.step x2 g2
        have k3 := k2.new ht (.tup [.str "act", .str "go", .ref D])
        obtain ⟨es, b1, b2, b3, b4⟩ := RExp.list ra
        refine q _ _ k3.x k3.g ⟨.act "go" es, .act (k2.at_ ht) (AtN.new ht _ _ _ hD) (b1.mono (AtN.new ht _)), ?_, by simp only [depE]; omega⟩
        simp only [wfE, Bool.and_eq_true, decide_eq_true_eq]
        exact ⟨⟨by omega, by decide⟩, b2⟩
      refine iteE (decide_eq_false fun e => c0 (by injection e with e; omega)) ?_
      refine ⟨by show 1 ≤ sizeLine; decide, fun p0 hp0 => ⟨by show 2 ≤ sizeLine; decide, fun p1 hp1 => ⟨by show 2 ≤ sizeLine; decide, fun p2 hp2 => ⟨by show 0 ≤ sizeLine; decide, fun p3 hp3 => ⟨by show 4 ≤ sizeLine; decide, fun p4 hp4 => ?_⟩⟩⟩⟩⟩
      have j0 := k1.new hp0 (.tup [.str "x"])
      have j1 := j0.new hp1 (.tup [.str "x", .str "y"])
      have j2 := j1.new hp2 (.tup [.str "zz", .str "x"])
      have j3 := j2.new hp3 (.tup [])
      have j4 := j3.new hp4 (.tup [.ref p0, .ref p1, .ref p2, .ref p3])
      have d4 := same_new hp4 (.tup [.ref p0, .ref p1, .ref p2, .ref p3])
      have e3 := d4 _ _ (upd_same (a := p3) (o := .tup []))
      have d3 := (same_new hp3 (.tup [])).trans d4
      have e2 := d3 _ _ (upd_same (a := p2) (o := .tup [.str "zz", .str "x"]))
      have d2 := (same_new hp2 (.tup [.str "zz", .str "x"])).trans d3
      have e1 := d2 _ _ (upd_same (a := p1) (o := .tup [.str "x", .str "y"]))
      have d1 := (same_new hp1 (.tup [.str "x", .str "y"])).trans d2
      have e0 := d1 _ _ (upd_same (a := p0) (o := .tup [.str "x"]))
      refine ⟨_, rfl, st, 4, rfl, by decide, by decide, j4.g, fun r2 H3 hr2 x3 g3 => ?_⟩
      have j5 := j4.step x3 g3
      have h4 := x3 p4 _ (j3.ne hp4) upd_same
      obtain ⟨pt, L, hpick, hL, hl2, hnd, hok, hlens⟩ : ∃ (pt : Addr) (L : List Str), atI [V.ref p0, .ref p1, .ref p2, .ref p3] ((r2 : Nat) : Int) = some (.ref pt) ∧ H3 pt = some (.tup (L.map V.str)) ∧ L.length ≤ 2 ∧ L.Nodup ∧ okK L = true ∧ lens L ≤ 1000 := by
        obtain rfl | rfl | rfl | rfl : r2 = 0 ∨ r2 = 1 ∨ r2 = 2 ∨ r2 = 3 := by omega
        · exact ⟨p0, ["x"], rfl, x3 p0 _ (k1.ne hp0) e0, by decide, by decide, by kernel_rfl, by decide⟩
        · exact ⟨p1, ["x", "y"], rfl, x3 p1 _ (j0.ne hp1) e1, by decide, by decide, by kernel_rfl, by decide⟩
        · exact ⟨p2, ["zz", "x"], rfl, x3 p2 _ (j1.ne hp2) e2, by decide, by decide, by kernel_rfl, by decide⟩
        · exact ⟨p3, [], rfl, x3 p3 _ (j2.ne hp3) e3, by decide, by decide, by kernel_rfl, by decide⟩
      have hpt : pt ≠ st := fun e => by
        obtain ⟨n, hn⟩ := j5.g
        rw [e, hn] at hL
        cases hL
      refine ⟨p4, _, _, _, rfl, rfl, SqT.of h4, hpick, ?_⟩
      refine ⟨_, rfl, pt, rfl, ⟨_, SqT.of hL⟩, fun D hD => ?_⟩
      refine lc_gen (N := N) (st := st) walk_tup (fun i R v => ∃ nm, L[i]? = some nm ∧ RPair n (envN ++ bs) nm R v) (fun _ _ _ _ f h => let ⟨nm, e, r⟩ := h; ⟨nm, e, r.mono f⟩) hst j5.n j5.g hD (by rw [List.length_map]; omega) (fun H5 x5 => SqT.of (x5 pt _ hpt hL)) (fun _ => rfl) ?_ ?_
      · intro i y H5 Q' hi x5 g5 n5 hy q'
        rw [List.getElem?_map] at hy
        obtain ⟨nm, hnm, rfl⟩ := Option.map_eq_some_iff.mp hy
        refine ⟨_, rfl, _, rfl, _, rfl, _, rfl, st, 5, rfl, by decide, by decide, g5, fun r6 H6 hr6 x6 g6 => ?_⟩
        have n6 := NOk.sx n5 x6 g6
        refine ⟨_, rfl, n, _, st, r6, b, bs, rfl, rfl, by omega, .inl hst, n6, g6, (x5.trans x6) b _ neb (j5.x b _ neb hb), bo1, hn, fun v H7 x7 g7 rv => ⟨by show 2 ≤ sizeLine; decide, fun t ht => ?_⟩⟩
        have n7 := NOk.sx n6 x7 g7
        have s8 := same_new ht (.tup [.str nm, v])
        exact q' _ _ ((x6.trans x7).trans (SX.of s8)) (g7.same s8) ⟨nm, hnm, t, v, rfl, ⟨upd_same, fun h => n7 t h ht⟩, rv.mono (AtN.new ht _)⟩
      · intro H5 acc x5 g5 e5 el ra
        have nD := j5.free hD
        have el2 : acc.length = L.length := by rw [el, List.length_map]
        obtain ⟨es, b1, b2, b3, b4⟩ := RPair.list (R := AtN (fun a => N a ∨ a = D) H5) el2 ra
        refine ⟨by show 2 ≤ sizeLine; decide, fun t ht => ?_⟩
        have j6 := j5.step x5 g5
        have j7 := j6.new ht (.tup [.str "record", .ref D])
        refine q _ _ j7.x j7.g ⟨.rcd L es, .rcd (j6.at_ ht) (AtN.new ht _ _ _ ⟨e5, nD⟩) (b1.mono fun a u e => AtN.new ht _ a u ⟨e.1, fun z => e.2 (.inl z)⟩), ?_, by simp only [depE]; omega⟩
        simp only [wfE, Bool.and_eq_true, decide_eq_true_eq]
        exact ⟨⟨⟨⟨⟨hnd, by omega⟩, by omega⟩, hok⟩, hlens⟩, b2⟩
end
end K19
/-! What the law draws: signs. -/
namespace K19
open PySem PySem.Spec PyProof.Rows L2
theorem sc_l_signed : FnScope nm_l_signed ["_law_state", "_law_levels", "_law_want", "_law_bound"] (defScope s_l_signed) := ⟨rfl, rfl, rfl, by decide +kernel, rfl, by decide +kernel, by decide +kernel⟩

theorem seq_rest2 {t0 t1 rest : TS} {DD : Ends} {σ : L2.St} {H : Hp} (G : L2.St → Hp → Prop) (hr : ∀ σ1 H1, G σ1 H1 → rest DD σ1 H1) (hc : (∀ σ1 H1, G σ1 H1 → rest DD σ1 H1) → tSeq t0 (tSeq t1 rest) DD σ H) : tSeq t0 (tSeq t1 rest) DD σ H := hc hr
theorem pick_strs (L : List Str) {r : Nat} (h : r < L.length) : ∃ s, atI (L.map V.str) ((r : Nat) : Int) = some (.str s) ∧ s ∈ L :=
  ⟨L[r], atI_nat (by rw [List.getElem?_map, List.getElem?_eq_getElem h]; rfl), List.getElem_mem h⟩
theorem inV_strs (g : Str) : ∀ L : List Str, inV (.str g) (L.map V.str) = decide (g ∈ L)
  | [] => rfl
  | s :: r => by
    show ((s == g) || inV (.str g) (r.map V.str)) = _
    rw [inV_strs g r]
    by_cases c : s = g
    · subst c
      simp
    · have c1 : (s == g) = false := by simpa using c
      have c2 : ¬ g = s := fun e => c e.symm
      rw [c1, Bool.false_or]
      simp [c2]
section
variable {P : Program} {w : World} {K : PySem.W.Frag} {mg : Str → Option Value} {base : Heap} {a : Ads}
theorem bin_ok {n : Nat} {ns : List Str} {N : Addr → Prop} {st : Addr} {H H1 : Hp} {t : Addr} {g : Str} {v u : V} (k : Gn N st H H1) (ht : H1 t = none) (hg : g ∈ signs) (rv : RExp n ns (AtN N H1) v) (ru : RExp n ns (AtN N H1) u) :
    RExp (n + 1) ns (AtN N (upd H1 t (.tup [.str "binary", .str g, v, u]))) (.ref t) := by
  obtain ⟨e1, a1, a2, a3⟩ := rv
  obtain ⟨e2, b1, b2, b3⟩ := ru
  refine ⟨.bin g e1 e2, .bin (k.at_ ht) (a1.mono (AtN.new ht _)) (b1.mono (AtN.new ht _)), ?_, by simp only [depE]; omega⟩
  simp only [wfE, Bool.and_eq_true, decide_eq_true_eq]
  exact ⟨⟨hg, a2⟩, b2⟩
theorem ok_l_signed (T : Txt P w K mg a) {n k : Nat} (hk : 3 ≤ k) (G_l_expression : FnOk P w K mg base CX0 k a.l_expression a.l_expression_d ["_law_state", "_law_levels", "_law_want", "_law_bound"] (spLExp (n + 1))) : FnOk P w K mg base CX0 (k + 1) a.l_signed a.l_signed_d ["_law_state", "_law_levels", "_law_want", "_law_bound"] (spLFun n) := by
  have G_l_digit := ok_l_digit (base := base) T
  refine T.l_signed.F.ok sc_l_signed (fun vs H Q E h => ?_) (fun cdv A outer s H vs Q E hr h => ?_)
  · obtain ⟨N, st, want, b, bs, rfl, _⟩ := h
    rfl
  · obtain ⟨N, st, want, b, bs, rfl, hw, hst, hN, hg, hb, bo, hn, q⟩ := h
    refine ⟨_, (pss_cons (ps_if (pt_cmpR op_eq (pv 2) pe_int (nomark _)) (pss_cons (ps_set (i := 4) sc_l_signed.nd rfl (Or.inl rfl) (pe_ix ix_tup (pe_tup (pa_cons pe_str (pa_cons pe_str (pa_cons pe_str (pa_cons pe_str pa_nil))))) (pe_cd T.l_digit G_l_digit (hr.mono (by omega)) pass0 (pa_cons (pv 0) (pa_cons pe_int pa_nil))) (fun _ _ => rfl)))
      (pss_one (ps_ret (pe_tup (pa_cons pe_str (pa_cons (pv 4) (pa_cons (pe_cd T.l_expression G_l_expression (hr.mono (by omega)) pass0 (pa_cons (pv 0) (pa_cons (pv 1) (pa_cons pe_int (pa_cons (pv 3) pa_nil))))) (pa_cons (pe_cd T.l_expression G_l_expression (hr.mono (by omega)) pass0 (pa_cons (pv 0) (pa_cons (pv 1) (pa_cons pe_int (pa_cons (pv 3) pa_nil))))) pa_nil)))))))) pss_nil)
      (pss_cons (ps_if (pt_cmpR op_eq (pv 2) pe_int (nomark _)) (pss_cons (ps_set (i := 4) sc_l_signed.nd rfl (Or.inl rfl) (pe_ix ix_tup (pe_tup (pa_cons pe_str (pa_cons pe_str (pa_cons pe_str (pa_cons pe_str (pa_cons pe_str (pa_cons pe_str (pa_cons pe_str (pa_cons pe_str pa_nil))))))))) (pe_cd T.l_digit G_l_digit (hr.mono (by omega)) pass0 (pa_cons (pv 0) (pa_cons pe_int pa_nil))) (fun _ _ => rfl)))
      (pss_cons (ps_set (i := 5) sc_l_signed.nd rfl (Or.inl rfl) (pe_ix ix_tup (pe_tup (pa_cons pe_int (pa_cons pe_int (pa_cons pe_int pa_nil)))) (pe_cd T.l_digit G_l_digit (hr.mono (by omega)) pass0 (pa_cons (pv 0) (pa_cons pe_int pa_nil))) (fun _ _ => rfl)))
      (pss_cons (ps_if (pt_cmpR op_in_seq (pv 4) (pe_tup (pa_cons pe_str (pa_cons pe_str pa_nil))) (by rfl)) (pss_one (ps_set (i := 5) sc_l_signed.nd rfl (Or.inl rfl) pe_int)) pss_nil)
      (pss_cons (ps_set (i := 6) sc_l_signed.nd rfl (Or.inl rfl) (pe_cd T.l_expression G_l_expression (hr.mono (by omega)) pass0 (pa_cons (pv 0) (pa_cons (pv 1) (pa_cons (pv 5) (pa_cons (pv 3) pa_nil))))))
      (pss_one (ps_ret (pe_tup (pa_cons pe_str (pa_cons (pv 4) (pa_cons (pv 6) (pa_cons (pe_cd T.l_expression G_l_expression (hr.mono (by omega)) pass0 (pa_cons (pv 0) (pa_cons (pv 1) (pa_cons (pv 5) (pa_cons (pv 3) pa_nil))))) pa_nil))))))))))) pss_nil)
      (pss_cons (ps_set (i := 6) sc_l_signed.nd rfl (Or.inl rfl) (pe_cd T.l_expression G_l_expression (hr.mono (by omega)) pass0 (pa_cons (pv 0) (pa_cons (pv 1) (pa_cons (pv 2) (pa_cons (pv 3) pa_nil))))))
      (pss_one (ps_ret (pe_tup (pa_cons pe_str (pa_cons pe_str (pa_cons (pv 6) (pa_cons (pe_cd T.l_expression G_l_expression (hr.mono (by omega)) pass0 (pa_cons (pv 0) (pa_cons (pv 1) (pa_cons (pe_ix ix_tup (pe_tup (pa_cons (pv 2) (pa_cons pe_int pa_nil))) (pe_callTy call_int1 rfl T.b_int (by decide +kernel) (pa_cons (pe_cmpR op_eq (pv 2) pe_int (nomark _)) pa_nil)) (fun _ _ => rfl)) (pa_cons (pv 3) pa_nil))))) pa_nil)))))))))), ?_⟩
    have g0 := Gn.start hst hN hg
    have neb := bnd_ne hg hb
    refine ⟨_, rfl, rfl, _, rfl, ?_⟩
    by_cases c1 : want = 1
    · refine iteD (decide_eq_true (by rw [c1]; rfl)) ⟨by show 4 ≤ sizeLine; decide, fun p hp => ?_⟩
      have k1 := g0.new hp (.tup [.str "+", .str "-", .str "*", .str "/"])
      refine ⟨_, rfl, st, 4, rfl, by decide, by decide, k1.g, fun r H2 hr2 x2 g2 => ?_⟩
      have k2 := k1.step x2 g2
      obtain ⟨g, hgp, hgm⟩ := pick_strs ["+", "-", "*", "/"] (r := r) hr2
      have gs : g ∈ signs := by
        simp only [List.mem_cons, List.not_mem_nil, or_false] at hgm
        rcases hgm with rfl | rfl | rfl | rfl <;> simp [signs]
      refine ⟨p, _, _, _, rfl, rfl, SqT.of (x2 p _ (g0.ne hp) upd_same), hgp, ?_⟩
      refine ⟨_, rfl, _, rfl, _, rfl, _, rfl, n, N, st, 1, b, bs, rfl, rfl, by decide, hst, k2.n, k2.g, k2.x b _ neb hb, bo, hn, fun v H3 x3 g3 rv => ?_⟩
      have k3 := k2.step x3 g3
      refine ⟨_, rfl, _, rfl, _, rfl, n, N, st, 1, b, bs, rfl, rfl, by decide, hst, k3.n, k3.g, k3.x b _ neb hb, bo, hn, fun u H4 x4 g4 ru => ⟨by show 4 ≤ sizeLine; decide, fun t ht => ?_⟩⟩
      have k4 := k3.step x4 g4
      exact q _ _ (k4.new ht _).x (k4.new ht _).g (bin_ok k4 ht gs (rv.mono (AtN.sx hst x4)) ru)
    refine iteE (decide_eq_false fun e => c1 (by injection e with e; omega)) ⟨_, rfl, rfl, _, rfl, ?_⟩
    by_cases c2 : want = 2
    · refine iteD (decide_eq_true (by rw [c2]; rfl)) ⟨by show 8 ≤ sizeLine; decide, fun p hp => ?_⟩
      have k1 := g0.new hp (.tup [.str "<", .str "<=", .str ">", .str ">=", .str "==", .str "!=", .str "&&", .str "||"])
      refine ⟨_, rfl, st, 8, rfl, by decide, by decide, k1.g, fun r H2 hr2 x2 g2 => ?_⟩
      have k2 := k1.step x2 g2
      obtain ⟨g, hgp, hgm⟩ := pick_strs ["<", "<=", ">", ">=", "==", "!=", "&&", "||"] (r := r) hr2
      have gs : g ∈ signs := by
        simp only [List.mem_cons, List.not_mem_nil, or_false] at hgm
        rcases hgm with rfl | rfl | rfl | rfl | rfl | rfl | rfl | rfl <;> simp [signs]
      refine ⟨p, _, _, _, rfl, rfl, SqT.of (x2 p _ (g0.ne hp) upd_same), hgp, ?_⟩
      refine ⟨by show 3 ≤ sizeLine; decide, fun p2 hp2 => ?_⟩
      have k3 := k2.new hp2 (.tup [.int 1, .int 3, .int 0])
      refine ⟨_, rfl, st, 3, rfl, by decide, by decide, k3.g, fun r2 H4 hr4 x4 g4 => ?_⟩
      have k4 := k3.step x4 g4
      obtain ⟨kv, hkp, hkm⟩ : ∃ kv : Nat, atI [V.int 1, .int 3, .int 0] ((r2 : Nat) : Int) = some (.int (kv : Int)) ∧ kv ≤ 5 := by
        obtain rfl | rfl | rfl : r2 = 0 ∨ r2 = 1 ∨ r2 = 2 := by omega
        · exact ⟨1, rfl, by decide⟩
        · exact ⟨3, rfl, by decide⟩
        · exact ⟨0, rfl, by decide⟩
      have e4 := x4 p2 _ (k2.ne hp2) upd_same
      refine ⟨p2, _, _, _, rfl, rfl, SqT.of e4, hkp, ?_⟩
      refine seq_rest2 (fun σ1 H5 => ∃ kv : Nat, kv ≤ 5 ∧ σ1 = [some (.ref st), some (.int (n : Int)), some (.int (want : Int)), some (.ref b), some (.str g), some (.int (kv : Int)), none] ∧ Gn N st H H5) ?_ fun rest => ?_
      · rintro σ1 H5 ⟨kv, hkv, rfl, k5⟩
        refine ⟨_, rfl, _, rfl, _, rfl, _, rfl, n, N, st, kv, b, bs, rfl, rfl, hkv, hst, k5.n, k5.g, k5.x b _ neb hb, bo, hn, fun v H6 x6 g6 rv => ?_⟩
        have k6 := k5.step x6 g6
        refine ⟨_, rfl, _, rfl, _, rfl, _, rfl, _, rfl, _, rfl, n, N, st, kv, b, bs, rfl, rfl, hkv, hst, k6.n, k6.g, k6.x b _ neb hb, bo, hn, fun u H7 x7 g7 ru => ⟨by show 4 ≤ sizeLine; decide, fun t ht => ?_⟩⟩
        have k7 := k6.step x7 g7
        exact q _ _ (k7.new ht _).x (k7.new ht _).g (bin_ok k7 ht gs (rv.mono (AtN.sx hst x7)) ru)
      · refine in_strs (ss := [Str.ofString "&&", Str.ofString "||"]) rfl (fun Q q => q) (by show 2 ≤ 100; decide) _ (inV_strs g ["&&", "||"]) fun H5 s5 => ?_
        have k5 := k4.step (SX.of s5) (k4.g.same s5)
        by_cases c : g ∈ [Str.ofString "&&", Str.ofString "||"]
        · exact iteD (decide_eq_true c) (rest _ _ ⟨2, by decide, rfl, k5⟩)
        · exact iteE (decide_eq_false c) (rest _ _ ⟨kv, hkm, rfl, k5⟩)
    refine iteE (decide_eq_false fun e => c2 (by injection e with e; omega)) ?_
    refine ⟨_, rfl, _, rfl, _, rfl, _, rfl, n, N, st, want, b, bs, rfl, rfl, by omega, hst, g0.n, g0.g, hb, bo, hn, fun v H3 x3 g3 rv => ?_⟩
    have k3 := g0.step x3 g3
    refine ⟨_, rfl, _, rfl, _, rfl, _, rfl, by show 2 ≤ sizeLine; decide, fun p hp => ⟨_, rfl, rfl, .inr ⟨_, rfl, ?_⟩⟩⟩
    have k4 := k3.new hp (.tup [.int (want : Int), .int 1])
    have plus : ("+" : Str) ∈ signs := by simp [signs]
    by_cases c3 : want = 3
    · subst c3
      refine ⟨p, _, 1, _, rfl, rfl, SqT.of upd_same, rfl, _, rfl, n, N, st, 1, b, bs, rfl, rfl, by decide, hst, k4.n, k4.g, k4.x b _ neb hb, bo, hn, fun u H5 x5 g5 ru => ⟨by show 4 ≤ sizeLine; decide, fun t ht => ?_⟩⟩
      have k5 := k4.step x5 g5
      exact q _ _ (k5.new ht _).x (k5.new ht _).g (bin_ok k5 ht plus ((rv.mono (AtN.new hp _)).mono (AtN.sx hst x5)) ru)
    · have e0 : decide (V.int (want : Int) = V.int 3) = false := decide_eq_false fun e => c3 (by injection e with e; omega)
      refine ⟨p, _, 0, _, rfl, by rw [e0]; rfl, SqT.of upd_same, rfl, _, rfl, n, N, st, want, b, bs, rfl, rfl, by omega, hst, k4.n, k4.g, k4.x b _ neb hb, bo, hn, fun u H5 x5 g5 ru => ⟨by show 4 ≤ sizeLine; decide, fun t ht => ?_⟩⟩
      have k5 := k4.step x5 g5
      exact q _ _ (k5.new ht _).x (k5.new ht _).g (bin_ok k5 ht plus ((rv.mono (AtN.new hp _)).mono (AtN.sx hst x5)) ru)
end
end K19
/-! What the law draws: expressions. -/
namespace K19
open PySem PySem.Spec PyProof.Rows L2
theorem sc_l_expression : FnScope nm_l_expression ["_law_state", "_law_levels", "_law_want", "_law_bound"] (defScope s_l_expression) := ⟨rfl, rfl, rfl, by decide +kernel, rfl, by decide +kernel, by decide +kernel⟩

/-- what an expression's tuple begins with -/
theorem RepE.tag {R : Addr → HO → Prop} {v : V} {e : Ex} (h : RepE R v e) : ∃ (t : Addr) (g : Str) (xs : List V), v = .ref t ∧ R t (.tup (.str g :: xs)) ∧ (g = "name" → ∃ s, xs = [.str s]) := by
  cases h with
  | name h => exact ⟨_, _, _, rfl, h, fun _ => ⟨_, rfl⟩⟩
  | boo b h =>
    refine ⟨_, _, _, rfl, h, fun e => ?_⟩
    cases b <;> exact absurd e (by decide)
  | nul h => exact ⟨_, _, _, rfl, h, fun e => absurd e (by decide)⟩
  | num h => exact ⟨_, _, _, rfl, h, fun e => absurd e (by decide)⟩
  | txt h => exact ⟨_, _, _, rfl, h, fun e => absurd e (by decide)⟩
  | bin h => exact ⟨_, _, _, rfl, h, fun e => absurd e (by decide)⟩
  | cho h => exact ⟨_, _, _, rfl, h, fun e => absurd e (by decide)⟩
  | fld h => exact ⟨_, _, _, rfl, h, fun e => absurd e (by decide)⟩
  | itm h => exact ⟨_, _, _, rfl, h, fun e => absurd e (by decide)⟩
  | neg h => exact ⟨_, _, _, rfl, h, fun e => absurd e (by decide)⟩
  | nt h => exact ⟨_, _, _, rfl, h, fun e => absurd e (by decide)⟩
  | fn h => exact ⟨_, _, _, rfl, h, fun e => absurd e (by decide)⟩
  | lst h => exact ⟨_, _, _, rfl, h, fun e => absurd e (by decide)⟩
  | rcd h => exact ⟨_, _, _, rfl, h, fun e => absurd e (by decide)⟩
  | act h => exact ⟨_, _, _, rfl, h, fun e => absurd e (by decide)⟩
  | gat h => exact ⟨_, _, _, rfl, h, fun e => absurd e (by decide)⟩
  | gatIf h => exact ⟨_, _, _, rfl, h, fun e => absurd e (by decide)⟩
section
variable {P : Program} {w : World} {K : PySem.W.Frag} {mg : Str → Option Value} {base : Heap} {a : Ads}
theorem ok_l_expression (T : Txt P w K mg a) : ∀ m : Nat, FnOk P w K mg base CX0 (5 + 3 * m) a.l_expression a.l_expression_d ["_law_state", "_law_levels", "_law_want", "_law_bound"] (spLExp m)
  | 0 => fn_none fun vs H Q E h => by
    obtain ⟨n, N, st, want, b, bs, h, _⟩ := h
    omega
  | 1 => by
    have G_l_digit := ok_l_digit (base := base) T
    have G_l_leaf := ok_l_leaf (base := base) T
    have G_l_expression : FnOk P w K mg base CX0 1 a.l_expression a.l_expression_d ["_law_state", "_law_levels", "_law_want", "_law_bound"] (fun _ _ _ _ => False) := fn_none fun _ _ _ _ h => h
    have G_l_function : FnOk P w K mg base CX0 1 a.l_function a.l_function_d ["_law_state", "_law_levels", "_law_want", "_law_bound"] (fun _ _ _ _ => False) := fn_none fun _ _ _ _ h => h
    have G_l_made_of : FnOk P w K mg base CX0 1 a.l_made_of a.l_made_of_d ["_law_state", "_law_levels", "_law_want", "_law_bound"] (fun _ _ _ _ => False) := fn_none fun _ _ _ _ h => h
    have G_l_signed : FnOk P w K mg base CX0 1 a.l_signed a.l_signed_d ["_law_state", "_law_levels", "_law_want", "_law_bound"] (fun _ _ _ _ => False) := fn_none fun _ _ _ _ h => h
    refine T.l_expression.F.ok (k := 7) sc_l_expression (fun vs H Q E h => ?_) (fun cdv A outer s H vs Q E hr h => ?_)
    · obtain ⟨n, N, st, want, b, bs, _, rfl, _⟩ := h
      rfl
    · obtain ⟨n, N, st, want, b, bs, hm, rfl, hw, hst, hN, hg, hb, bo, hn, q⟩ := h
      have hm : n = 0 := by omega
      subst hm
      refine ⟨_, (pss_cons (ps_if (pt_cmpR op_eq (pe_cd T.l_digit G_l_digit (hr.mono (by omega)) pass0 (pa_cons (pv 0) (pa_cons pe_int pa_nil))) pe_int (nomark _)) (pss_one (ps_set (i := 2) sc_l_expression.nd rfl (Or.inl rfl) pe_int)) pss_nil)
      (pss_cons (ps_if (PW.pt (pw_or (pt_cmpR op_eq (pv 1) pe_int (nomark _)) (pw_or1 (pt_cmpR op_eq (pe_ix ix_list (pv 0) pe_int (fun _ _ => rfl)) pe_int (nomark _))))) (pss_one (ps_ret (pe_cd T.l_leaf G_l_leaf (hr.mono (by omega)) pass0 (pa_cons (pv 0) (pa_cons (pv 2) (pa_cons (pv 3) pa_nil)))))) pss_nil)
      (pss_cons (ps_set (i := 4) sc_l_expression.nd rfl (Or.inl rfl) (pe_cd T.l_digit G_l_digit (hr.mono (by omega)) pass0 (pa_cons (pv 0) (pa_cons pe_int pa_nil))))
      (pss_cons (ps_if (pt_cmpR op_eq (pv 4) pe_int (nomark _)) (pss_one (ps_ret (pe_cd T.l_leaf G_l_leaf (hr.mono (by omega)) pass0 (pa_cons (pv 0) (pa_cons (pv 2) (pa_cons (pv 3) pa_nil)))))) pss_nil)
      (pss_cons (ps_if (pt_cmpR op_eq (pv 4) pe_int (nomark _)) (pss_cons (ps_set (i := 5) sc_l_expression.nd rfl (Or.inl rfl) (pe_cd T.l_expression G_l_expression (hr.mono (by omega)) pass0 (pa_cons (pv 0) (pa_cons (pe_op op_sub (pv 1) pe_int) (pa_cons pe_int (pa_cons (pv 3) pa_nil))))))
      (pss_cons (ps_set (i := 6) sc_l_expression.nd rfl (Or.inl rfl) (pe_cd T.l_expression G_l_expression (hr.mono (by omega)) pass0 (pa_cons (pv 0) (pa_cons (pe_op op_sub (pv 1) pe_int) (pa_cons (pv 2) (pa_cons (pv 3) pa_nil))))))
      (pss_one (ps_ret (pe_tup (pa_cons pe_str (pa_cons (pv 5) (pa_cons (pv 6) (pa_cons (pe_cd T.l_expression G_l_expression (hr.mono (by omega)) pass0 (pa_cons (pv 0) (pa_cons (pe_op op_sub (pv 1) pe_int) (pa_cons (pv 2) (pa_cons (pv 3) pa_nil))))) pa_nil))))))))) pss_nil)
      (pss_cons (ps_if (pt_cmpR op_eq (pv 4) pe_int (nomark _)) (pss_cons (ps_set (i := 7) sc_l_expression.nd rfl (Or.inl rfl) (pe_cd T.l_expression G_l_expression (hr.mono (by omega)) pass0 (pa_cons (pv 0) (pa_cons (pe_op op_sub (pv 1) pe_int) (pa_cons (pe_ix ix_tup (pe_tup (pa_cons pe_int (pa_cons pe_int pa_nil))) (pe_cd T.l_digit G_l_digit (hr.mono (by omega)) pass0 (pa_cons (pv 0) (pa_cons pe_int pa_nil))) (fun _ _ => rfl)) (pa_cons (pv 3) pa_nil))))))
      (pss_cons (ps_if (PW.pt (pw_or (PW.pt (pw_and (pt_cmpR op_eq (pe_ix ix_tup (pv 7) pe_int (fun _ _ => rfl)) pe_str (nomark _)) (pw_and1 (pt_cmpR op_eq (pe_ix ix_tup (pv 7) pe_int (fun _ _ => rfl)) pe_str (nomark _))))) (pw_or1 (pt_cmpR op_eq (pe_cd T.l_digit G_l_digit (hr.mono (by omega)) pass0 (pa_cons (pv 0) (pa_cons pe_int pa_nil))) pe_int (nomark _))))) (pss_one (ps_ret (pe_tup (pa_cons pe_str (pa_cons (pv 7) (pa_cons (pe_ix ix_tup (pe_tup (pa_cons pe_str (pa_cons pe_str (pa_cons pe_str pa_nil)))) (pe_cd T.l_digit G_l_digit (hr.mono (by omega)) pass0 (pa_cons (pv 0) (pa_cons pe_int pa_nil))) (fun _ _ => rfl)) pa_nil)))))) pss_nil)
      (pss_one (ps_ret (pe_tup (pa_cons pe_str (pa_cons (pv 7) (pa_cons (pe_cd T.l_expression G_l_expression (hr.mono (by omega)) pass0 (pa_cons (pv 0) (pa_cons (pe_op op_sub (pv 1) pe_int) (pa_cons (pe_ix ix_tup (pe_tup (pa_cons pe_int (pa_cons pe_int (pa_cons pe_int pa_nil)))) (pe_cd T.l_digit G_l_digit (hr.mono (by omega)) pass0 (pa_cons (pv 0) (pa_cons pe_int pa_nil))) (fun _ _ => rfl)) (pa_cons (pv 3) pa_nil))))) pa_nil)))))))) pss_nil)
      (pss_cons (ps_if (pt_cmpR op_lt (pv 4) pe_int (nomark _)) (pss_one (ps_ret (pe_cd T.l_function G_l_function (hr.mono (by omega)) pass0 (pa_cons (pv 0) (pa_cons (pe_op op_sub (pv 1) pe_int) (pa_cons (pv 2) (pa_cons (pv 3) pa_nil))))))) pss_nil)
      (pss_cons (ps_if (pt_cmpR op_in_seq (pv 2) (pe_tup (pa_cons pe_int (pa_cons pe_int (pa_cons pe_int pa_nil)))) (by rfl)) (pss_one (ps_ret (pe_cd T.l_made_of G_l_made_of (hr.mono (by omega)) pass0 (pa_cons (pv 0) (pa_cons (pe_op op_sub (pv 1) pe_int) (pa_cons (pv 2) (pa_cons (pv 3) pa_nil))))))) pss_nil)
      (pss_cons (ps_if (PW.pt (pw_and (pt_cmpR op_eq (pv 4) pe_int (nomark _)) (pw_and1 (pt_cmpR op_eq (pv 2) pe_int (nomark _))))) (pss_one (ps_ret (pe_tup (pa_cons pe_str (pa_cons (pe_cd T.l_expression G_l_expression (hr.mono (by omega)) pass0 (pa_cons (pv 0) (pa_cons (pe_op op_sub (pv 1) pe_int) (pa_cons pe_int (pa_cons (pv 3) pa_nil))))) pa_nil))))) pss_nil)
      (pss_cons (ps_if (PW.pt (pw_and (pt_cmpR op_eq (pv 4) pe_int (nomark _)) (pw_and1 (pt_cmpR op_eq (pv 2) pe_int (nomark _))))) (pss_one (ps_ret (pe_tup (pa_cons pe_str (pa_cons (pe_cd T.l_expression G_l_expression (hr.mono (by omega)) pass0 (pa_cons (pv 0) (pa_cons (pe_op op_sub (pv 1) pe_int) (pa_cons pe_int (pa_cons (pv 3) pa_nil))))) pa_nil))))) pss_nil)
      (pss_one (ps_ret (pe_cd T.l_signed G_l_signed (hr.mono (by omega)) pass0 (pa_cons (pv 0) (pa_cons (pe_op op_sub (pv 1) pe_int) (pa_cons (pv 2) (pa_cons (pv 3) pa_nil))))))))))))))))), ?_⟩
      have g0 := Gn.start hst hN hg
      have neb := bnd_ne hg hb
      have bl := bo.1
      refine seq_rest (fun σ1 H1 => ∃ w1 : Nat, w1 ≤ 5 ∧ σ1 = [some (.ref st), some (.int ((0 : Nat) : Int)), some (.int (w1 : Int)), some (.ref b), none, none, none, none] ∧ Gn N st H H1) ?_ fun rest => ?_
      · rintro σ1 H1 ⟨w1, hw1, rfl, k1⟩
        exact ⟨_, rfl, rfl, _, rfl, iteT (iteT ⟨_, rfl, _, rfl, _, rfl, N, st, w1, b, bs, rfl, hw1, hst, k1.n, k1.g, k1.x b _ neb hb, by omega, fun v H2 x2 g2 rv => q v H2 (k1.step x2 g2).x g2 rv⟩)⟩
      · refine ⟨_, rfl, st, 14, rfl, by decide, by decide, hg, fun r H1 hr1 x1 g1 => ⟨rfl, _, rfl, ?_⟩⟩
        have k1 := g0.step x1 g1
        by_cases c : r = 0
        · exact iteD (decide_eq_true (by rw [c]; rfl)) (rest _ _ ⟨0, by decide, rfl, k1⟩)
        · exact iteE (decide_eq_false fun e => c (by injection e with e; omega)) (rest _ _ ⟨want, hw, rfl, k1⟩)
  | m + 2 => by
    have G_l_digit := ok_l_digit (base := base) T
    have G_l_leaf := ok_l_leaf (base := base) T
    have G_l_expression := ok_l_expression T (m + 1)
    have G_l_function := ok_l_function (base := base) T (n := m) (by omega) G_l_expression
    have G_l_made_of := ok_l_made_of (base := base) T (n := m) (by omega) G_l_expression
    have G_l_signed := ok_l_signed (base := base) T (n := m) (by omega) G_l_expression
    have ek : 5 + 3 * (m + 2) = (10 + 3 * m) + 1 := by omega
    rw [ek]
    refine T.l_expression.F.ok sc_l_expression (fun vs H Q E h => ?_) (fun cdv A outer s H vs Q E hr h => ?_)
    · obtain ⟨n, N, st, want, b, bs, _, rfl, _⟩ := h
      rfl
    · obtain ⟨n, N, st, want, b, bs, hm, rfl, hw, hst, hN, hg, hb, bo, hn, q⟩ := h
      have hm : n = m + 1 := by omega
      subst hm
      have hn' : m ≤ 4 := by omega
      refine ⟨_, (pss_cons (ps_if (pt_cmpR op_eq (pe_cd T.l_digit G_l_digit (hr.mono (by omega)) pass0 (pa_cons (pv 0) (pa_cons pe_int pa_nil))) pe_int (nomark _)) (pss_one (ps_set (i := 2) sc_l_expression.nd rfl (Or.inl rfl) pe_int)) pss_nil)
      (pss_cons (ps_if (PW.pt (pw_or (pt_cmpR op_eq (pv 1) pe_int (nomark _)) (pw_or1 (pt_cmpR op_eq (pe_ix ix_list (pv 0) pe_int (fun _ _ => rfl)) pe_int (nomark _))))) (pss_one (ps_ret (pe_cd T.l_leaf G_l_leaf (hr.mono (by omega)) pass0 (pa_cons (pv 0) (pa_cons (pv 2) (pa_cons (pv 3) pa_nil)))))) pss_nil)
      (pss_cons (ps_set (i := 4) sc_l_expression.nd rfl (Or.inl rfl) (pe_cd T.l_digit G_l_digit (hr.mono (by omega)) pass0 (pa_cons (pv 0) (pa_cons pe_int pa_nil))))
      (pss_cons (ps_if (pt_cmpR op_eq (pv 4) pe_int (nomark _)) (pss_one (ps_ret (pe_cd T.l_leaf G_l_leaf (hr.mono (by omega)) pass0 (pa_cons (pv 0) (pa_cons (pv 2) (pa_cons (pv 3) pa_nil)))))) pss_nil)
      (pss_cons (ps_if (pt_cmpR op_eq (pv 4) pe_int (nomark _)) (pss_cons (ps_set (i := 5) sc_l_expression.nd rfl (Or.inl rfl) (pe_cd T.l_expression G_l_expression (hr.mono (by omega)) pass0 (pa_cons (pv 0) (pa_cons (pe_op op_sub (pv 1) pe_int) (pa_cons pe_int (pa_cons (pv 3) pa_nil))))))
      (pss_cons (ps_set (i := 6) sc_l_expression.nd rfl (Or.inl rfl) (pe_cd T.l_expression G_l_expression (hr.mono (by omega)) pass0 (pa_cons (pv 0) (pa_cons (pe_op op_sub (pv 1) pe_int) (pa_cons (pv 2) (pa_cons (pv 3) pa_nil))))))
      (pss_one (ps_ret (pe_tup (pa_cons pe_str (pa_cons (pv 5) (pa_cons (pv 6) (pa_cons (pe_cd T.l_expression G_l_expression (hr.mono (by omega)) pass0 (pa_cons (pv 0) (pa_cons (pe_op op_sub (pv 1) pe_int) (pa_cons (pv 2) (pa_cons (pv 3) pa_nil))))) pa_nil))))))))) pss_nil)
      (pss_cons (ps_if (pt_cmpR op_eq (pv 4) pe_int (nomark _)) (pss_cons (ps_set (i := 7) sc_l_expression.nd rfl (Or.inl rfl) (pe_cd T.l_expression G_l_expression (hr.mono (by omega)) pass0 (pa_cons (pv 0) (pa_cons (pe_op op_sub (pv 1) pe_int) (pa_cons (pe_ix ix_tup (pe_tup (pa_cons pe_int (pa_cons pe_int pa_nil))) (pe_cd T.l_digit G_l_digit (hr.mono (by omega)) pass0 (pa_cons (pv 0) (pa_cons pe_int pa_nil))) (fun _ _ => rfl)) (pa_cons (pv 3) pa_nil))))))
      (pss_cons (ps_if (PW.pt (pw_or (PW.pt (pw_and (pt_cmpR op_eq (pe_ix ix_tup (pv 7) pe_int (fun _ _ => rfl)) pe_str (nomark _)) (pw_and1 (pt_cmpR op_eq (pe_ix ix_tup (pv 7) pe_int (fun _ _ => rfl)) pe_str (nomark _))))) (pw_or1 (pt_cmpR op_eq (pe_cd T.l_digit G_l_digit (hr.mono (by omega)) pass0 (pa_cons (pv 0) (pa_cons pe_int pa_nil))) pe_int (nomark _))))) (pss_one (ps_ret (pe_tup (pa_cons pe_str (pa_cons (pv 7) (pa_cons (pe_ix ix_tup (pe_tup (pa_cons pe_str (pa_cons pe_str (pa_cons pe_str pa_nil)))) (pe_cd T.l_digit G_l_digit (hr.mono (by omega)) pass0 (pa_cons (pv 0) (pa_cons pe_int pa_nil))) (fun _ _ => rfl)) pa_nil)))))) pss_nil)
      (pss_one (ps_ret (pe_tup (pa_cons pe_str (pa_cons (pv 7) (pa_cons (pe_cd T.l_expression G_l_expression (hr.mono (by omega)) pass0 (pa_cons (pv 0) (pa_cons (pe_op op_sub (pv 1) pe_int) (pa_cons (pe_ix ix_tup (pe_tup (pa_cons pe_int (pa_cons pe_int (pa_cons pe_int pa_nil)))) (pe_cd T.l_digit G_l_digit (hr.mono (by omega)) pass0 (pa_cons (pv 0) (pa_cons pe_int pa_nil))) (fun _ _ => rfl)) (pa_cons (pv 3) pa_nil))))) pa_nil)))))))) pss_nil)
      (pss_cons (ps_if (pt_cmpR op_lt (pv 4) pe_int (nomark _)) (pss_one (ps_ret (pe_cd T.l_function G_l_function (hr.mono (by omega)) pass0 (pa_cons (pv 0) (pa_cons (pe_op op_sub (pv 1) pe_int) (pa_cons (pv 2) (pa_cons (pv 3) pa_nil))))))) pss_nil)
      (pss_cons (ps_if (pt_cmpR op_in_seq (pv 2) (pe_tup (pa_cons pe_int (pa_cons pe_int (pa_cons pe_int pa_nil)))) (by rfl)) (pss_one (ps_ret (pe_cd T.l_made_of G_l_made_of (hr.mono (by omega)) pass0 (pa_cons (pv 0) (pa_cons (pe_op op_sub (pv 1) pe_int) (pa_cons (pv 2) (pa_cons (pv 3) pa_nil))))))) pss_nil)
      (pss_cons (ps_if (PW.pt (pw_and (pt_cmpR op_eq (pv 4) pe_int (nomark _)) (pw_and1 (pt_cmpR op_eq (pv 2) pe_int (nomark _))))) (pss_one (ps_ret (pe_tup (pa_cons pe_str (pa_cons (pe_cd T.l_expression G_l_expression (hr.mono (by omega)) pass0 (pa_cons (pv 0) (pa_cons (pe_op op_sub (pv 1) pe_int) (pa_cons pe_int (pa_cons (pv 3) pa_nil))))) pa_nil))))) pss_nil)
      (pss_cons (ps_if (PW.pt (pw_and (pt_cmpR op_eq (pv 4) pe_int (nomark _)) (pw_and1 (pt_cmpR op_eq (pv 2) pe_int (nomark _))))) (pss_one (ps_ret (pe_tup (pa_cons pe_str (pa_cons (pe_cd T.l_expression G_l_expression (hr.mono (by omega)) pass0 (pa_cons (pv 0) (pa_cons (pe_op op_sub (pv 1) pe_int) (pa_cons pe_int (pa_cons (pv 3) pa_nil))))) pa_nil))))) pss_nil)
      (pss_one (ps_ret (pe_cd T.l_signed G_l_signed (hr.mono (by omega)) pass0 (pa_cons (pv 0) (pa_cons (pe_op op_sub (pv 1) pe_int) (pa_cons (pv 2) (pa_cons (pv 3) pa_nil))))))))))))))))), ?_⟩
      have g0 := Gn.start hst hN hg
      have neb := bnd_ne hg hb
      have bl := bo.1
      have bo1 := bo.down (Nat.le_succ m)
      have em : (((m + 1 : Nat) : Int) - 1) = ((m : Nat) : Int) := by omega
      have args : ∀ (w1 : Nat), [V.ref st, V.int (((m + 1 : Nat) : Int) - 1), V.int (w1 : Int), V.ref b] = [V.ref st, V.int ((m : Nat) : Int), V.int (w1 : Int), V.ref b] := fun w1 => by rw [em]
      refine seq_rest (fun σ1 H1 => ∃ w1 : Nat, w1 ≤ 5 ∧ σ1 = [some (.ref st), some (.int ((m + 1 : Nat) : Int)), some (.int (w1 : Int)), some (.ref b), none, none, none, none] ∧ Gn N st H H1) ?_ fun rest => ?_
      · rintro σ1 H1 ⟨w1, hw1, rfl, k1⟩
        have leafA : ∀ {H2 : Hp} {o4 : Option V} {DD : Ends}, Gn N st H H2 → DD.rt = Q → tRet (tCall spLLeaf [] E0 (tCons (tVar 0) (tCons (tVar 2) (tCons (tVar 3) tNil)))) DD [some (.ref st), some (.int ((m + 1 : Nat) : Int)), some (.int (w1 : Int)), some (.ref b), o4, none, none, none] H2 := by
          intro H2 o4 DD k hrt
          refine ⟨_, rfl, _, rfl, _, rfl, N, st, w1, b, bs, rfl, hw1, hst, k.n, k.g, k.x b _ neb hb, by omega, fun v H3 x3 g3 rv => ?_⟩
          show DD.rt _ _
          rw [hrt]
          obtain ⟨e, a1, a2, a3⟩ := rv
          exact q v H3 (k.step x3 g3).x g3 ⟨e, a1, a2, by omega⟩
        refine ⟨_, rfl, rfl, _, rfl, iteE (decide_eq_false fun e => by injection e with e; omega) ?_⟩
        obtain ⟨nn, hnn⟩ := k1.g
        refine ⟨_, rfl, st, _, 0, _, rfl, rfl, SqL.of hnn, rfl, rfl, _, rfl, ?_⟩
        by_cases cz : nn = 0
        · exact iteD (decide_eq_true (by rw [cz]; rfl)) (leafA k1 rfl)
        refine iteE (decide_eq_false fun e => cz (by injection e with e; omega)) ?_
        refine ⟨_, rfl, st, 9, rfl, by decide, by decide, k1.g, fun ch H2 hr2 x2 g2 => ?_⟩
        have k2 := k1.step x2 g2
        refine ⟨_, rfl, rfl, _, rfl, ?_⟩
        by_cases c0 : ch = 0
        · exact iteD (decide_eq_true (by rw [c0]; rfl)) (leafA k2 rfl)
        refine iteE (decide_eq_false fun e => c0 (by injection e with e; omega)) ⟨_, rfl, rfl, _, rfl, ?_⟩
        by_cases c1 : ch = 1
        · refine iteD (decide_eq_true (by rw [c1]; rfl)) ⟨_, rfl, _, rfl, _, _, rfl, rfl, _, rfl, m, N, st, 2, b, bs, rfl, args 2, by decide, hst, k2.n, k2.g, k2.x b _ neb hb, bo1, hn', fun cv H3 x3 g3 rc => ?_⟩
          have k3 := k2.step x3 g3
          refine ⟨_, rfl, _, rfl, _, _, rfl, rfl, _, rfl, _, rfl, m, N, st, w1, b, bs, rfl, args w1, hw1, hst, k3.n, k3.g, k3.x b _ neb hb, bo1, hn', fun v H4 x4 g4 rv => ?_⟩
          have k4 := k3.step x4 g4
          refine ⟨_, rfl, _, rfl, _, rfl, _, rfl, _, _, rfl, rfl, _, rfl, _, rfl, m, N, st, w1, b, bs, rfl, args w1, hw1, hst, k4.n, k4.g, k4.x b _ neb hb, bo1, hn', fun u H5 x5 g5 ru => ⟨by show 4 ≤ sizeLine; decide, fun t ht => ?_⟩⟩
          have k5 := k4.step x5 g5
          obtain ⟨e1, a1, a2, a3⟩ := rc.mono (AtN.sx hst (x4.trans x5))
          obtain ⟨e2, b1, b2, b3⟩ := rv.mono (AtN.sx hst x5)
          obtain ⟨e3, d1, d2, d3⟩ := ru
          refine q _ _ (k5.new ht _).x (k5.new ht _).g ⟨.cho e1 e2 e3, .cho (k5.at_ ht) (a1.mono (AtN.new ht _)) (b1.mono (AtN.new ht _)) (d1.mono (AtN.new ht _)), ?_, by simp only [depE]; omega⟩
          simp only [wfE, Bool.and_eq_true]
          exact ⟨⟨a2, b2⟩, d2⟩
        refine iteE (decide_eq_false fun e => c1 (by injection e with e; omega)) ⟨_, rfl, rfl, _, rfl, ?_⟩
        by_cases c2 : ch = 2
        · refine iteD (decide_eq_true (by rw [c2]; rfl)) ?_
          refine ⟨_, rfl, _, rfl, _, _, rfl, rfl, by show 2 ≤ sizeLine; decide, fun p hp => ?_⟩
          have k3 := k2.new hp (.tup [.int 4, .int 5])
          refine ⟨_, rfl, st, 2, rfl, by decide, by decide, k3.g, fun r4 H4 hr4 x4 g4 => ?_⟩
          have k4 := k3.step x4 g4
          obtain ⟨w2, hw2p, hw2⟩ : ∃ w2 : Nat, atI [V.int 4, .int 5] ((r4 : Nat) : Int) = some (.int (w2 : Int)) ∧ w2 ≤ 5 := by
            obtain rfl | rfl : r4 = 0 ∨ r4 = 1 := by omega
            · exact ⟨4, rfl, by decide⟩
            · exact ⟨5, rfl, by decide⟩
          refine ⟨p, _, _, _, rfl, rfl, SqT.of (x4 p _ (k2.ne hp) upd_same), hw2p, _, rfl, m, N, st, w2, b, bs, rfl, args w2, hw2, hst, k4.n, k4.g, k4.x b _ neb hb, bo1, hn', fun row H5 x5 g5 rrow => ?_⟩
          have k5 := k4.step x5 g5
          obtain ⟨er, ra, rb, rc⟩ := rrow
          obtain ⟨tr, gr, xr, erow, htr, hname⟩ := ra.tag
          have rrow : RExp m (envN ++ bs) (AtN N H5) row := ⟨er, ra, rb, rc⟩
          subst erow
          refine seq_rest2 (fun σ1 H6 => σ1 = [some (.ref st), some (.int ((m + 1 : Nat) : Int)), some (.int (w1 : Int)), some (.ref b), some (.int (ch : Int)), none, none, some (.ref tr)] ∧ SX st H5 H6 ∧ Gn N st H H6) ?_ fun rest2 => ?_
          · rintro σ1 H6 ⟨rfl, x6, k6⟩
            refine ⟨_, rfl, _, rfl, _, rfl, _, _, rfl, rfl, by show 3 ≤ sizeLine; decide, fun p7 hp7 => ?_⟩
            have k7 := k6.new hp7 (.tup [.int 1, .int 1, .int 3])
            refine ⟨_, rfl, st, 3, rfl, by decide, by decide, k7.g, fun r8 H8 hr8 x8 g8 => ?_⟩
            have k8 := k7.step x8 g8
            obtain ⟨w3, hw3p, hw3⟩ : ∃ w3 : Nat, atI [V.int 1, .int 1, .int 3] ((r8 : Nat) : Int) = some (.int (w3 : Int)) ∧ w3 ≤ 5 := by
              obtain rfl | rfl | rfl : r8 = 0 ∨ r8 = 1 ∨ r8 = 2 := by omega
              · exact ⟨1, rfl, by decide⟩
              · exact ⟨1, rfl, by decide⟩
              · exact ⟨3, rfl, by decide⟩
            refine ⟨p7, _, _, _, rfl, rfl, SqT.of (x8 p7 _ (k6.ne hp7) upd_same), hw3p, _, rfl, m, N, st, w3, b, bs, rfl, args w3, hw3, hst, k8.n, k8.g, k8.x b _ neb hb, bo1, hn', fun u H9 x9 g9 ru => ⟨by show 3 ≤ sizeLine; decide, fun t ht => ?_⟩⟩
            have k9 := k8.step x9 g9
            obtain ⟨e1, a1, a2, a3⟩ := rrow.mono (AtN.sx hst (((x6.trans (SX.of (same_new hp7 (.tup [.int 1, .int 1, .int 3])))).trans x8).trans x9))
            obtain ⟨e2, b1, b2, b3⟩ := ru
            refine q _ _ (k9.new ht _).x (k9.new ht _).g ⟨.itm e1 e2, .itm (k9.at_ ht) (a1.mono (AtN.new ht _)) (b1.mono (AtN.new ht _)), ?_, by simp only [depE]; omega⟩
            simp only [wfE, Bool.and_eq_true]
            exact ⟨a2, b2⟩
          · refine ⟨_, rfl, tr, _, 0, _, rfl, rfl, SqT.of htr.1, atI_0, rfl, _, rfl, ?_⟩
            have second : ∀ {R : Bool → Hp → Prop}, (∀ (bb : Bool) H6, SX st H5 H6 → Gn N st H H6 → R bb H6) → tTest (tOp rEq (tCall spDigit [] E0 (tCons (tVar 0) (tCons (tC (.int 4)) tNil))) (tC (.int 0))) [some (.ref st), some (.int ((m + 1 : Nat) : Int)), some (.int (w1 : Int)), some (.ref b), some (.int (ch : Int)), none, none, some (.ref tr)] H5 R := fun h =>
              ⟨_, rfl, st, 4, rfl, by decide, by decide, k5.g, fun r6 H6 hr6 x6 g6 => ⟨rfl, _, rfl, h _ H6 x6 (k5.step x6 g6)⟩⟩
            by_cases cn : gr = "name"
            · obtain ⟨s, rfl⟩ := hname cn
              refine iteD (decide_eq_true (by rw [cn])) ⟨_, rfl, tr, _, 1, _, rfl, rfl, SqT.of htr.1, rfl, rfl, _, rfl, ?_⟩
              by_cases cr : s = "r"
              · refine iteD (decide_eq_true (by rw [cr])) (iteT ?_)
                refine ⟨_, rfl, by show 3 ≤ sizeLine; decide, fun p3 hp3 => ?_⟩
                have k6 := k5.new hp3 (.tup [.str "x", .str "y", .str "zz"])
                refine ⟨_, rfl, st, 3, rfl, by decide, by decide, k6.g, fun r7 H7 hr7 x7 g7 => ?_⟩
                have k7 := k6.step x7 g7
                obtain ⟨nm, hnm, hnm2⟩ := pick_strs ["x", "y", "zz"] (r := r7) hr7
                have nl : nm.length ≤ 100 := by
                  simp only [List.mem_cons, List.not_mem_nil, or_false] at hnm2
                  rcases hnm2 with rfl | rfl | rfl <;> decide
                refine ⟨p3, _, _, _, rfl, rfl, SqT.of (x7 p3 _ (k5.ne hp3) upd_same), hnm, by show 3 ≤ sizeLine; decide, fun t ht => ?_⟩
                obtain ⟨e1, a1, a2, a3⟩ := rrow.mono (AtN.sx hst ((SX.of (same_new hp3 (.tup [.str "x", .str "y", .str "zz"]))).trans x7))
                refine q _ _ (k7.new ht _).x (k7.new ht _).g ⟨.fld e1 nm, .fld (k7.at_ ht) (a1.mono (AtN.new ht _)), ?_, by simp only [depE]; omega⟩
                simp only [wfE, Bool.and_eq_true, decide_eq_true_eq]
                exact ⟨a2, nl⟩
              · refine iteE (decide_eq_false fun e => cr (by injection e)) (second fun bb H6 x6 k6' => ?_)
                cases bb with
                | false => exact iteF (rest2 _ _ ⟨rfl, x6, k6'⟩)
                | true =>
                  refine iteT ?_
                  refine ⟨_, rfl, by show 3 ≤ sizeLine; decide, fun p3 hp3 => ?_⟩
                  have k6 := k6'.new hp3 (.tup [.str "x", .str "y", .str "zz"])
                  refine ⟨_, rfl, st, 3, rfl, by decide, by decide, k6.g, fun r7 H7 hr7 x7 g7 => ?_⟩
                  have k7 := k6.step x7 g7
                  obtain ⟨nm, hnm, hnm2⟩ := pick_strs ["x", "y", "zz"] (r := r7) hr7
                  have nl : nm.length ≤ 100 := by
                    simp only [List.mem_cons, List.not_mem_nil, or_false] at hnm2
                    rcases hnm2 with rfl | rfl | rfl <;> decide
                  refine ⟨p3, _, _, _, rfl, rfl, SqT.of (x7 p3 _ (k6'.ne hp3) upd_same), hnm, by show 3 ≤ sizeLine; decide, fun t ht => ?_⟩
                  obtain ⟨e1, a1, a2, a3⟩ := rrow.mono (AtN.sx hst (x6.trans ((SX.of (same_new hp3 (.tup [.str "x", .str "y", .str "zz"]))).trans x7)))
                  refine q _ _ (k7.new ht _).x (k7.new ht _).g ⟨.fld e1 nm, .fld (k7.at_ ht) (a1.mono (AtN.new ht _)), ?_, by simp only [depE]; omega⟩
                  simp only [wfE, Bool.and_eq_true, decide_eq_true_eq]
                  exact ⟨a2, nl⟩
            · refine iteE (decide_eq_false fun e => cn (by injection e)) (iteF (second fun bb H6 x6 k6' => ?_))
              cases bb with
              | false => exact iteF (rest2 _ _ ⟨rfl, x6, k6'⟩)
              | true =>
                refine iteT ?_
                refine ⟨_, rfl, by show 3 ≤ sizeLine; decide, fun p3 hp3 => ?_⟩
                have k6 := k6'.new hp3 (.tup [.str "x", .str "y", .str "zz"])
                refine ⟨_, rfl, st, 3, rfl, by decide, by decide, k6.g, fun r7 H7 hr7 x7 g7 => ?_⟩
                have k7 := k6.step x7 g7
                obtain ⟨nm, hnm, hnm2⟩ := pick_strs ["x", "y", "zz"] (r := r7) hr7
                have nl : nm.length ≤ 100 := by
                  simp only [List.mem_cons, List.not_mem_nil, or_false] at hnm2
                  rcases hnm2 with rfl | rfl | rfl <;> decide
                refine ⟨p3, _, _, _, rfl, rfl, SqT.of (x7 p3 _ (k6'.ne hp3) upd_same), hnm, by show 3 ≤ sizeLine; decide, fun t ht => ?_⟩
                obtain ⟨e1, a1, a2, a3⟩ := rrow.mono (AtN.sx hst (x6.trans ((SX.of (same_new hp3 (.tup [.str "x", .str "y", .str "zz"]))).trans x7)))
                refine q _ _ (k7.new ht _).x (k7.new ht _).g ⟨.fld e1 nm, .fld (k7.at_ ht) (a1.mono (AtN.new ht _)), ?_, by simp only [depE]; omega⟩
                simp only [wfE, Bool.and_eq_true, decide_eq_true_eq]
                exact ⟨a2, nl⟩
        refine iteE (decide_eq_false fun e => c2 (by injection e with e; omega)) ⟨_, rfl, _, _, rfl, rfl, _, rfl, ?_⟩
        by_cases c5 : (ch : Int) < 5
        · refine iteD (decide_eq_true c5) ⟨_, rfl, _, rfl, _, _, rfl, rfl, _, rfl, _, rfl, N, st, w1, b, bs, args w1, hw1, hst, k2.n, k2.g, k2.x b _ neb hb, bo1, hn', fun v H3 x3 g3 rv => q v H3 (k2.step x3 g3).x g3 rv⟩
        refine iteE (decide_eq_false c5) ?_
        have inI : ∀ {R : Bool → Hp → Prop} (bb : Bool), inV (.int (w1 : Int)) [.int 0, .int 4, .int 5] = bb → (∀ H6, SX st H2 H6 → Gn N st H H6 → R bb H6) → tTest (tOp (rIn K false) (tVar 2) (tTup (tCons (tC (.int 0)) (tCons (tC (.int 4)) (tCons (tC (.int 5)) tNil))))) [some (.ref st), some (.int ((m + 1 : Nat) : Int)), some (.int (w1 : Int)), some (.ref b), some (.int (ch : Int)), none, none, none] H2 R := fun bb e h =>
          ⟨_, rfl, by show 3 ≤ sizeLine; decide, fun p hp => ⟨p, _, rfl, .inr (SqT.of upd_same), rfl, rfl, _, rfl, by rw [show (if false = true then !inV (.int (w1 : Int)) [.int 0, .int 4, .int 5] else inV (.int (w1 : Int)) [.int 0, .int 4, .int 5]) = bb from e]; exact h _ (SX.of (same_new hp _)) (k2.new hp _)⟩⟩
        have made : ∀ {H6 : Hp} {DD : Ends}, Gn N st H H6 → DD.rt = Q → tRet (tCall (spLMof m) [] E0 (tCons (tVar 0) (tCons (tOp (rI0 fun i j => V.int (i - j)) (tVar 1) (tC (.int 1))) (tCons (tVar 2) (tCons (tVar 3) tNil))))) DD [some (.ref st), some (.int ((m + 1 : Nat) : Int)), some (.int (w1 : Int)), some (.ref b), some (.int (ch : Int)), none, none, none] H6 := by
          intro H6 DD k6 hrt
          refine ⟨_, rfl, _, rfl, _, _, rfl, rfl, _, rfl, _, rfl, N, st, w1, b, bs, args w1, hw1, hst, k6.n, k6.g, k6.x b _ neb hb, bo, hn', fun v H7 x7 g7 rv => ?_⟩
          show DD.rt _ _
          rw [hrt]
          exact q v H7 (k6.step x7 g7).x g7 rv
        have sgn : ∀ {H6 : Hp} {DD : Ends}, Gn N st H H6 → DD.rt = Q → tRet (tCall (spLFun m) [] E0 (tCons (tVar 0) (tCons (tOp (rI0 fun i j => V.int (i - j)) (tVar 1) (tC (.int 1))) (tCons (tVar 2) (tCons (tVar 3) tNil))))) DD [some (.ref st), some (.int ((m + 1 : Nat) : Int)), some (.int (w1 : Int)), some (.ref b), some (.int (ch : Int)), none, none, none] H6 := by
          intro H6 DD k6 hrt
          refine ⟨_, rfl, _, rfl, _, _, rfl, rfl, _, rfl, _, rfl, N, st, w1, b, bs, args w1, hw1, hst, k6.n, k6.g, k6.x b _ neb hb, bo1, hn', fun v H7 x7 g7 rv => ?_⟩
          show DD.rt _ _
          rw [hrt]
          exact q v H7 (k6.step x7 g7).x g7 rv
        have isM : w1 = 0 ∨ w1 = 4 ∨ w1 = 5 → ∀ {R : Bool → Hp → Prop}, (∀ H6, SX st H2 H6 → Gn N st H H6 → R true H6) → tTest (tOp (rIn K false) (tVar 2) (tTup (tCons (tC (.int 0)) (tCons (tC (.int 4)) (tCons (tC (.int 5)) tNil))))) [some (.ref st), some (.int ((m + 1 : Nat) : Int)), some (.int (w1 : Int)), some (.ref b), some (.int (ch : Int)), none, none, none] H2 R := fun h R k => inI true (by rcases h with rfl | rfl | rfl <;> rfl) k
        by_cases cm : w1 = 0 ∨ w1 = 4 ∨ w1 = 5
        · exact isM cm fun H6 x6 k6 => iteT (made k6 rfl)
        refine inI false (by
          obtain rfl | rfl | rfl : w1 = 1 ∨ w1 = 2 ∨ w1 = 3 := by omega
          · rfl
          · rfl
          · rfl) fun H6 x6 k6 => iteF ?_
        refine ⟨_, rfl, rfl, _, rfl, ?_⟩
        by_cases c55 : ch = 5
        · refine iteD (decide_eq_true (by rw [c55]; rfl)) ⟨_, rfl, rfl, _, rfl, ?_⟩
          by_cases cw1 : w1 = 1
          · refine iteD (decide_eq_true (by rw [cw1]; rfl)) (⟨_, rfl, _, rfl, _, _, rfl, rfl, _, rfl, m, N, st, 1, b, bs, rfl, args 1, by decide, hst, k6.n, k6.g, k6.x b _ neb hb, bo1, hn', fun v H7 x7 g7 rv => ⟨by show 2 ≤ sizeLine; decide, fun t ht => ?_⟩⟩)
            have k7 := k6.step x7 g7
            obtain ⟨e1, a1, a2, a3⟩ := rv
            refine q _ _ (k7.new ht _).x (k7.new ht _).g ⟨.neg e1, .neg (k7.at_ ht) (a1.mono (AtN.new ht _)), ?_, by simp only [depE]; omega⟩
            simp only [wfE]
            exact a2
          · refine iteE (decide_eq_false fun e => cw1 (by injection e with e; omega)) (⟨_, rfl, rfl, _, rfl, iteD (decide_eq_true (by rw [c55]; rfl)) ⟨_, rfl, rfl, _, rfl, ?_⟩⟩)
            by_cases cw2 : w1 = 2
            · refine iteD (decide_eq_true (by rw [cw2]; rfl)) (⟨_, rfl, _, rfl, _, _, rfl, rfl, _, rfl, m, N, st, 2, b, bs, rfl, args 2, by decide, hst, k6.n, k6.g, k6.x b _ neb hb, bo1, hn', fun v H7 x7 g7 rv => ⟨by show 2 ≤ sizeLine; decide, fun t ht => ?_⟩⟩)
              have k7 := k6.step x7 g7
              obtain ⟨e1, a1, a2, a3⟩ := rv
              refine q _ _ (k7.new ht _).x (k7.new ht _).g ⟨.nt e1, .nt (k7.at_ ht) (a1.mono (AtN.new ht _)), ?_, by simp only [depE]; omega⟩
              simp only [wfE]
              exact a2
            · exact iteE (decide_eq_false fun e => cw2 (by injection e with e; omega)) (sgn k6 rfl)
        · exact iteE (decide_eq_false fun e => c55 (by injection e with e; omega)) (iteF ⟨_, rfl, rfl, _, rfl, iteE (decide_eq_false fun e => c55 (by injection e with e; omega)) (iteF (sgn k6 rfl))⟩)
      · refine ⟨_, rfl, st, 14, rfl, by decide, by decide, hg, fun r H1 hr1 x1 g1 => ⟨rfl, _, rfl, ?_⟩⟩
        have k1 := g0.step x1 g1
        by_cases c : r = 0
        · exact iteD (decide_eq_true (by rw [c]; rfl)) (rest _ _ ⟨0, by decide, rfl, k1⟩)
        · exact iteE (decide_eq_false fun e => c (by injection e with e; omega)) (rest _ _ ⟨want, hw, rfl, k1⟩)
end
end K19
/-! What the law draws: environments. -/
namespace K19
open PySem PySem.Spec PyProof.Rows L2
theorem sc_l_environment : FnScope nm_l_environment ["_law_state"] (defScope s_l_environment) := ⟨rfl, rfl, rfl, by decide +kernel, rfl, by decide +kernel, by decide +kernel⟩

theorem RVal.num {d s : Nat} {R : Addr → HO → Prop} {i : Int} (h : i.natAbs ≤ 1000000000000000000000000000000) (hd : 1 ≤ d) (hs : 1 ≤ s) : RVal d s R (.int i) := ⟨.num i, .num i, by simp only [okV]; exact decide_eq_true h, rfl, hd, hs⟩
theorem RVal.boo {d s : Nat} {R : Addr → HO → Prop} (b : Bool) (hd : 1 ≤ d) (hs : 1 ≤ s) : RVal d s R (.bl b) := ⟨.boo b, .boo b, rfl, rfl, hd, hs⟩
theorem RVal.txt {d s : Nat} {R : Addr → HO → Prop} {t : Str} (h : okS t = true) (hd : 1 ≤ d) (hs : 1 + t.length ≤ s) : RVal d s R (.str t) := ⟨.txt t, .txt t, rfl, h, hd, hs⟩
abbrev kvP (s : Str) (v : V) : Key × V := (Sum.inr s, v)
theorem AtN.put {N : Addr → Prop} {H : Hp} {d : Addr} (hd : N d) (u : HO) : ∀ a o, AtN N H a o → AtN N (upd H d u) a o := fun a o e => ⟨by rw [upd_ne fun z => e.2 (by rw [z]; exact hd)]; exact e.1, e.2⟩
section
variable {P : Program} {w : World} {K : PySem.W.Frag} {mg : Str → Option Value} {base : Heap} {a : Ads}
theorem FnOk.orr {CX : CXT} {k : Nat} {f : Addr} {fd : FuncData} {ps : List Str} {sp sp' : Sp} (F : FnOk P w K mg base CX k f fd ps sp) (G : FnOk P w K mg base CX k f fd ps sp') : FnOk P w K mg base CX k f fd ps (fun vs H Q E => sp vs H Q E ∨ sp' vs H Q E) :=
  ⟨fun vs H Q E h => h.elim (F.len vs H Q E) (G.len vs H Q E), fun A outer s H args us vs Q E hr he hb hv h => h.elim (F.run A outer s H args us vs Q E hr he hb hv) (G.run A outer s H args us vs Q E hr he hb hv)⟩
def spLEnv : Sp := fun vs H Q _ => ∃ (N : Addr → Prop) (st : Addr), vs = [.ref st] ∧ N st ∧ NOk N H ∧ Sg st H ∧ ∀ d kvs H', SX st H H' → Sg st H' → H' d = some (.dK kvs) → ¬ N d → kvs.map (·.1) = envN.map Sum.inr → (∀ v ∈ kvs.map (·.2), RVal 3 128 (AtN N H') v) → Q (.ref d) H'
theorem ok_l_environment (T : Txt P w K mg a) : FnOk P w K mg base CX0 6 a.l_environment a.l_environment_d ["_law_state"] spLEnv := by
  have G_l_digit := ok_l_digit (base := base) T
  have G_l_number := ok_l_number (base := base) T
  have G_l_text := ok_l_text (base := base) T
  have G_l_value := FnOk.orr ((ok_l_value (base := base) T 2).mono (by decide : 4 ≤ 5)) (ok_l_value (base := base) T 3)
  refine T.l_environment.F.ok sc_l_environment (fun vs H Q E h => ?_) (fun cdv A outer s H vs Q E hr h => ?_)
  · obtain ⟨N, st, rfl, _⟩ := h
    rfl
  · obtain ⟨N, st, rfl, hst, hN, hg, q⟩ := h
    refine ⟨_, (pss_cons (ps_set (i := 1) sc_l_environment.nd rfl (Or.inl rfl) (pe_disp (pps_cons pe_str (pe_cd T.l_digit G_l_digit (hr.mono (by omega)) pass0 (pa_cons (pv 0) (pa_cons pe_int pa_nil))) (pps_cons pe_str (pe_cd T.l_number G_l_number (hr.mono (by omega)) pass0 (pa_cons (pv 0) pa_nil)) (pps_cons pe_str (pe_cmpR op_eq (pe_cd T.l_digit G_l_digit (hr.mono (by omega)) pass0 (pa_cons (pv 0) (pa_cons pe_int pa_nil))) pe_int (nomark _)) pps_nil))) (by rfl) (by rfl) (fun z => by cases z) (by decide)))
      (pss_cons (ps_dput (hu_of hr) (pv 1) pe_str (pe_cd T.l_text G_l_text (hr.mono (by omega)) pass0 (pa_cons (pv 0) pa_nil)) rfl)
      (pss_cons (ps_dput (hu_of hr) (pv 1) pe_str (pe_lc (own := [("_law_k", 2)]) (g := gName 2) rfl sc_l_environment.nd (pi_range1 rfl T.b_range (pa_cons (pe_cd T.l_digit G_l_digit (hr.mono (by omega)) pass0 (pa_cons (pv 0) (pa_cons pe_int pa_nil))) pa_nil)) (blkOk_by (own := [("_law_k", 2)]) (N := nm_l_environment) (sc := defScope s_l_environment) (by decide +kernel)) (fun _ _ _ _ _ => pg_name (i := 2) sc_l_environment.nd rfl (Or.inl rfl)) (fun _ _ _ _ _ => pts_nil) (fun _ _ _ _ _ => (pe_cd T.l_digit G_l_digit (hr.mono (by omega)) pass0 (pa_cons (pv 0) (pa_cons pe_int pa_nil))))) rfl)
      (pss_cons (ps_dput (hu_of hr) (pv 1) pe_str (pe_lc (own := [("_law_k", 2)]) (g := gName 2) rfl sc_l_environment.nd (pi_range1 rfl T.b_range (pa_cons (pe_cd T.l_digit G_l_digit (hr.mono (by omega)) pass0 (pa_cons (pv 0) (pa_cons pe_int pa_nil))) pa_nil)) (blkOk_by (own := [("_law_k", 2)]) (N := nm_l_environment) (sc := defScope s_l_environment) (by decide +kernel)) (fun _ _ _ _ _ => pg_name (i := 2) sc_l_environment.nd rfl (Or.inl rfl)) (fun _ _ _ _ _ => pts_nil) (fun _ _ _ _ _ => (pe_cd T.l_value G_l_value (hr.mono (by omega)) pass0 (pa_cons (pv 0) (pa_cons pe_int pa_nil))))) rfl)
      (pss_cons (ps_dput (hu_of hr) (pv 1) pe_str (pe_disp (pps_cons pe_str (pe_cd T.l_digit G_l_digit (hr.mono (by omega)) pass0 (pa_cons (pv 0) (pa_cons pe_int pa_nil))) (pps_cons pe_str (pe_cd T.l_text G_l_text (hr.mono (by omega)) pass0 (pa_cons (pv 0) pa_nil)) pps_nil)) (by rfl) (by rfl) (fun z => by cases z) (by decide)) rfl)
      (pss_cons (ps_dput (hu_of hr) (pv 1) pe_str (pe_cd T.l_value G_l_value (hr.mono (by omega)) pass0 (pa_cons (pv 0) (pa_cons pe_int pa_nil))) rfl)
      (pss_one (ps_ret (pv 1))))))))), ?_⟩
    have g0 := Gn.start hst hN hg
    intro d hd
    have nD := g0.free hd
    have neD := g0.ne hd
    have c0 := g0.apart hd (.dK [])
    have e0 := upd_same (H := H) (a := d) (o := .dK [])
    refine ⟨_, rfl, st, 7, rfl, by decide, by decide, c0.g, fun r1 H1 hr1 x1 g1 => ?_⟩
    refine ⟨_, rfl, st, rfl, g1, fun i2 H2 hi2 x2 g2 => ?_⟩
    refine ⟨_, rfl, st, 2, rfl, by decide, by decide, g2, fun r3 H3 hr3 x3 g3 => ⟨rfl, ?_⟩⟩
    have x03 := (x1.trans x2).trans x3
    refine ⟨x03 d _ neD e0, [kvP "n" (.int (r1 : Int)), kvP "k" (.int i2), kvP "b" (.bl (decide (V.int (r3 : Int) = V.int 1)))], rfl, by show 3 ≤ 15; decide, ?_⟩
    have e3 : (mergeK [] [kvP "n" (V.int (r1 : Int)), kvP "k" (.int i2), kvP "b" (.bl (decide (V.int (r3 : Int) = V.int 1)))] : List (Key × V)) = [kvP "n" (V.int (r1 : Int)), kvP "k" (.int i2), kvP "b" (.bl (decide (V.int (r3 : Int) = V.int 1)))] := by kernel_rfl
    rw [e3]
    obtain ⟨bb, hbb⟩ : ∃ bb, bb = decide (V.int (r3 : Int) = V.int 1) := ⟨_, rfl⟩
    rw [← hbb]
    clear e3 hbb
    have k3 : Gn (fun a => N a ∨ a = d) st H (upd H3 d (.dK [kvP "n" (V.int (r1 : Int)), kvP "k" (.int i2), kvP "b" (.bl bb)])) := (c0.step x03 g3).put hd neD _
    have d3 := upd_same (H := H3) (a := d) (o := .dK [kvP "n" (V.int (r1 : Int)), kvP "k" (.int i2), kvP "b" (.bl bb)])
    generalize upd H3 d (.dK [kvP "n" (V.int (r1 : Int)), kvP "k" (.int i2), kvP "b" (.bl bb)]) = J0 at k3 d3 ⊢
    -- t
    refine ⟨_, rfl, st, rfl, k3.g, fun t H4 ht4 hs4 x4 g4 => ?_⟩
    refine ⟨_, rfl, d, _, rfl, .inl ⟨_, .inr "t", x4 d _ neD d3, rfl, lt_line (by show 3 < _; decide), rfl⟩, ?_⟩
    have k4 := (k3.step x4 g4).put hd neD (.dK [kvP "n" (V.int (r1 : Int)), kvP "k" (.int i2), kvP "b" (.bl bb), kvP "t" (.str t)])
    have p4 : (putK [kvP "n" (V.int (r1 : Int)), kvP "k" (.int i2), kvP "b" (.bl bb)] (Sum.inr "t" : Key) (.str t)) = [kvP "n" (V.int (r1 : Int)), kvP "k" (.int i2), kvP "b" (.bl bb), kvP "t" (.str t)] := by kernel_rfl
    rw [p4]
    have d4 := upd_same (H := H4) (a := d) (o := .dK [kvP "n" (V.int (r1 : Int)), kvP "k" (.int i2), kvP "b" (.bl bb), kvP "t" (.str t)])
    generalize upd H4 d (.dK [kvP "n" (V.int (r1 : Int)), kvP "k" (.int i2), kvP "b" (.bl bb), kvP "t" (.str t)]) = J1 at k4 d4 ⊢
    clear p4
    -- l
    refine ⟨_, rfl, st, 5, rfl, by decide, by decide, k4.g, fun r5 H5 hr5 x5 g5 => ?_⟩
    have k5 := k4.step x5 g5
    refine ⟨_, rfl, by omega, by omega, fun D5 hD5 => ?_⟩
    refine lc_gen (N := fun a => N a ∨ a = d) (st := st) walk_range (fun _ => RVal 1 8) (fun _ _ _ _ f h => h.mono f) (.inl hst) k5.n k5.g hD5 (by show r5 ≤ _; omega) (fun _ _ => trivial) (fun _ => rfl) ?_ ?_
    · intro i y H6 Q' hi x6 g6 n6 hy q'
      exact ⟨_, rfl, st, 9, rfl, by decide, by decide, g6, fun r7 H7 hr7 x7 g7 => q' _ H7 x7 g7 (RVal.num (by rw [Int.natAbs_natCast]; exact Nat.le_trans (Nat.le_of_lt hr7) (by decide)) (by decide) (by decide))⟩
    intro H6 acc6 x6 g6 e6 el6 ra6
    have k6 := k5.step x6 g6
    obtain ⟨l6, b1, b2, b3, b4, b5⟩ := RVal.list (R := AtN (fun a => N a ∨ a = d) H6) (acc := acc6) fun v hv => by
      obtain ⟨j, hj⟩ := List.mem_iff_getElem?.mp hv
      exact (ra6 j v hj).mono fun a u e => ⟨e.1, fun z => e.2 (.inl z)⟩
    have v6 : RVal 3 128 (AtN (fun a => N a ∨ a = d) H6) (.ref D5) := ⟨.lst l6, .lst ⟨e6, k5.free hD5⟩ b1, b2, b3, by simp only [depthV]; omega, by
      have : acc6.length ≤ 4 := by rw [el6]; show r5 ≤ 4; omega
      simp only [sizeV]
      omega⟩
    refine ⟨_, rfl, d, _, rfl, .inl ⟨_, .inr "l", x6 d _ neD (x5 d _ neD d4), rfl, lt_line (by show 4 < _; decide), rfl⟩, ?_⟩
    have p6 : (putK [kvP "n" (V.int (r1 : Int)), kvP "k" (.int i2), kvP "b" (.bl bb), kvP "t" (.str t)] (Sum.inr "l" : Key) (.ref D5)) = [kvP "n" (V.int (r1 : Int)), kvP "k" (.int i2), kvP "b" (.bl bb), kvP "t" (.str t), kvP "l" (.ref D5)] := by kernel_rfl
    rw [p6]
    have j6 := k6.put hd neD (.dK [kvP "n" (V.int (r1 : Int)), kvP "k" (.int i2), kvP "b" (.bl bb), kvP "t" (.str t), kvP "l" (.ref D5)])
    have v6 := v6.mono (AtN.put (d := d) (.inr rfl) (.dK [kvP "n" (V.int (r1 : Int)), kvP "k" (.int i2), kvP "b" (.bl bb), kvP "t" (.str t), kvP "l" (.ref D5)]))
    have d6 := upd_same (H := H6) (a := d) (o := .dK [kvP "n" (V.int (r1 : Int)), kvP "k" (.int i2), kvP "b" (.bl bb), kvP "t" (.str t), kvP "l" (.ref D5)])
    generalize upd H6 d (.dK [kvP "n" (V.int (r1 : Int)), kvP "k" (.int i2), kvP "b" (.bl bb), kvP "t" (.str t), kvP "l" (.ref D5)]) = J2 at j6 d6 v6 ⊢
    clear p6 b1 e6 ra6
    -- m
    refine ⟨_, rfl, st, 3, rfl, by decide, by decide, j6.g, fun r7 H7 hr7 x7 g7 => ?_⟩
    have k7 := j6.step x7 g7
    refine ⟨_, rfl, by omega, by omega, fun D7 hD7 => ?_⟩
    refine lc_gen (N := fun a => N a ∨ a = d) (st := st) walk_range (fun _ => RVal 2 32) (fun _ _ _ _ f h => h.mono f) (.inl hst) k7.n k7.g hD7 (by show r7 ≤ _; omega) (fun _ _ => trivial) (fun _ => rfl) ?_ ?_
    · intro i y H8 Q' hi x8 g8 n8 hy q'
      exact ⟨_, rfl, .inl ⟨1, _, st, rfl, rfl, .inl (.inl hst), n8, g8, fun v H9 x9 g9 rv => q' v H9 x9 g9 rv⟩⟩
    intro H8 acc8 x8 g8 e8 el8 ra8
    have k8 := k7.step x8 g8
    obtain ⟨l8, b1, b2, b3, b4, b5⟩ := RVal.list (R := AtN (fun a => N a ∨ a = d) H8) (acc := acc8) fun v hv => by
      obtain ⟨j, hj⟩ := List.mem_iff_getElem?.mp hv
      exact (ra8 j v hj).mono fun a u e => ⟨e.1, fun z => e.2 (.inl z)⟩
    have v8 : RVal 3 128 (AtN (fun a => N a ∨ a = d) H8) (.ref D7) := ⟨.lst l8, .lst ⟨e8, k7.free hD7⟩ b1, b2, b3, by simp only [depthV]; omega, by
      have : acc8.length ≤ 2 := by rw [el8]; show r7 ≤ 2; omega
      simp only [sizeV]
      omega⟩
    have v68 := v6.mono (AtN.sx (N := fun a => N a ∨ a = d) (.inl hst) (x7.trans x8))
    refine ⟨_, rfl, d, _, rfl, .inl ⟨_, .inr "m", x8 d _ neD (x7 d _ neD d6), rfl, lt_line (by show 5 < _; decide), rfl⟩, ?_⟩
    have p8 : (putK [kvP "n" (V.int (r1 : Int)), kvP "k" (.int i2), kvP "b" (.bl bb), kvP "t" (.str t), kvP "l" (.ref D5)] (Sum.inr "m" : Key) (.ref D7)) = [kvP "n" (V.int (r1 : Int)), kvP "k" (.int i2), kvP "b" (.bl bb), kvP "t" (.str t), kvP "l" (.ref D5), kvP "m" (.ref D7)] := by kernel_rfl
    rw [p8]
    have j8 := k8.put hd neD (.dK [kvP "n" (V.int (r1 : Int)), kvP "k" (.int i2), kvP "b" (.bl bb), kvP "t" (.str t), kvP "l" (.ref D5), kvP "m" (.ref D7)])
    have up8 := AtN.put (N := fun a => N a ∨ a = d) (H := H8) (d := d) (.inr rfl) (.dK [kvP "n" (V.int (r1 : Int)), kvP "k" (.int i2), kvP "b" (.bl bb), kvP "t" (.str t), kvP "l" (.ref D5), kvP "m" (.ref D7)])
    have v8 := v8.mono up8
    have v6 := v68.mono up8
    have d8 := upd_same (H := H8) (a := d) (o := .dK [kvP "n" (V.int (r1 : Int)), kvP "k" (.int i2), kvP "b" (.bl bb), kvP "t" (.str t), kvP "l" (.ref D5), kvP "m" (.ref D7)])
    clear up8 v68 p8
    generalize upd H8 d (.dK [kvP "n" (V.int (r1 : Int)), kvP "k" (.int i2), kvP "b" (.bl bb), kvP "t" (.str t), kvP "l" (.ref D5), kvP "m" (.ref D7)]) = J3 at j8 d8 v8 v6 ⊢
    clear b1 e8 ra8
    -- r
    intro D9 hD9
    have n9 := j8.ne hD9
    have f9 := j8.free hD9
    have k9 := j8.new hD9 (.dK [])
    refine ⟨_, rfl, st, 5, rfl, by decide, by decide, k9.g, fun r10 H10 hr10 x10 g10 => ?_⟩
    refine ⟨_, rfl, st, rfl, g10, fun t11 H11 ht11 hs11 x11 g11 => ?_⟩
    have x911 := x10.trans x11
    have d9d : D9 ≠ d := fun e => f9 (.inr e)
    refine ⟨x911 D9 _ n9 upd_same, [kvP "x" (.int (r10 : Int)), kvP "y" (.str t11)], rfl, by show 2 ≤ 15; decide, ?_⟩
    have e11 : (mergeK [] [kvP "x" (V.int (r10 : Int)), kvP "y" (.str t11)] : List (Key × V)) = [kvP "x" (V.int (r10 : Int)), kvP "y" (.str t11)] := by kernel_rfl
    rw [e11]
    clear e11
    have hD9H : H D9 = none := by
      cases e : H D9 with
      | none => rfl
      | some u =>
        rw [j8.x D9 u n9 e] at hD9
        cases hD9
    have k11 := (k9.step x911 g11).put hD9H n9 (.dK [kvP "x" (V.int (r10 : Int)), kvP "y" (.str t11)])
    have x811 : SX st J3 (upd H11 D9 (.dK [kvP "x" (V.int (r10 : Int)), kvP "y" (.str t11)])) := ((SX.of (same_new hD9 (.dK []))).trans x911).mut2 hD9 _
    have a11 : AtN (fun a => N a ∨ a = d) (upd H11 D9 (.dK [kvP "x" (V.int (r10 : Int)), kvP "y" (.str t11)])) D9 (.dK [kvP "x" (V.int (r10 : Int)), kvP "y" (.str t11)]) := ⟨upd_same, f9⟩
    generalize upd H11 D9 (.dK [kvP "x" (V.int (r10 : Int)), kvP "y" (.str t11)]) = H12 at k11 x811 a11 ⊢
    have v12 : RVal 3 128 (AtN (fun a => N a ∨ a = d) H12) (.ref D9) := ⟨.rcd ["x", "y"] [.num (r10 : Int), .txt t11], .rcd a11 rfl (.cons (.num _) (.cons (.txt _) .nil)), by
        simp only [okV, Bool.and_eq_true, decide_eq_true_eq]
        refine ⟨⟨⟨⟨by decide, rfl⟩, by decide⟩, by kernel_rfl⟩, ?_⟩
        simp only [okL, okV, Bool.and_true, decide_eq_true_eq]
        rw [Int.natAbs_natCast]
        exact Nat.le_trans (Nat.le_of_lt hr10) (by decide), by
        simp only [txtV, txtL, hs11, Bool.and_true]
        kernel_rfl, by simp [depthV, depthL], by
        simp only [sizeV, sizeL, lens]
        have : ("x" : Str).length = 1 := rfl
        have : ("y" : Str).length = 1 := rfl
        omega⟩
    have up12 := AtN.sx (N := fun a => N a ∨ a = d) (.inl hst) x811
    have v8 := v8.mono up12
    have v6 := v6.mono up12
    refine ⟨_, rfl, d, _, rfl, .inl ⟨_, .inr "r", x811 d _ neD d8, rfl, lt_line (by show 6 < _; decide), rfl⟩, ?_⟩
    have p12 : (putK [kvP "n" (V.int (r1 : Int)), kvP "k" (.int i2), kvP "b" (.bl bb), kvP "t" (.str t), kvP "l" (.ref D5), kvP "m" (.ref D7)] (Sum.inr "r" : Key) (.ref D9)) = [kvP "n" (V.int (r1 : Int)), kvP "k" (.int i2), kvP "b" (.bl bb), kvP "t" (.str t), kvP "l" (.ref D5), kvP "m" (.ref D7), kvP "r" (.ref D9)] := by kernel_rfl
    rw [p12]
    have j12 := k11.put hd neD (.dK [kvP "n" (V.int (r1 : Int)), kvP "k" (.int i2), kvP "b" (.bl bb), kvP "t" (.str t), kvP "l" (.ref D5), kvP "m" (.ref D7), kvP "r" (.ref D9)])
    have up13 := AtN.put (N := fun a => N a ∨ a = d) (H := H12) (d := d) (.inr rfl) (.dK [kvP "n" (V.int (r1 : Int)), kvP "k" (.int i2), kvP "b" (.bl bb), kvP "t" (.str t), kvP "l" (.ref D5), kvP "m" (.ref D7), kvP "r" (.ref D9)])
    have v12 := v12.mono up13
    have v8 := v8.mono up13
    have v6 := v6.mono up13
    have d12 := upd_same (H := H12) (a := d) (o := .dK [kvP "n" (V.int (r1 : Int)), kvP "k" (.int i2), kvP "b" (.bl bb), kvP "t" (.str t), kvP "l" (.ref D5), kvP "m" (.ref D7), kvP "r" (.ref D9)])
    clear up12 up13 p12 a11 x811
    generalize upd H12 d (.dK [kvP "n" (V.int (r1 : Int)), kvP "k" (.int i2), kvP "b" (.bl bb), kvP "t" (.str t), kvP "l" (.ref D5), kvP "m" (.ref D7), kvP "r" (.ref D9)]) = J4 at j12 d12 v12 v8 v6 ⊢
    -- o
    refine ⟨_, rfl, .inr ⟨2, _, st, rfl, rfl, .inl hst, j12.n, j12.g, fun vo H13 x13 g13 rvo => ?_⟩⟩
    have k13 := j12.step x13 g13
    have up14 := AtN.sx (N := fun a => N a ∨ a = d) (.inl hst) x13
    refine ⟨_, rfl, d, _, rfl, .inl ⟨_, .inr "o", x13 d _ neD d12, rfl, lt_line (by show 7 < _; decide), rfl⟩, ?_⟩
    have p14 : (putK [kvP "n" (V.int (r1 : Int)), kvP "k" (.int i2), kvP "b" (.bl bb), kvP "t" (.str t), kvP "l" (.ref D5), kvP "m" (.ref D7), kvP "r" (.ref D9)] (Sum.inr "o" : Key) vo) = [kvP "n" (V.int (r1 : Int)), kvP "k" (.int i2), kvP "b" (.bl bb), kvP "t" (.str t), kvP "l" (.ref D5), kvP "m" (.ref D7), kvP "r" (.ref D9), kvP "o" (vo)] := by kernel_rfl
    rw [p14]
    have j14 := k13.put hd neD (.dK [kvP "n" (V.int (r1 : Int)), kvP "k" (.int i2), kvP "b" (.bl bb), kvP "t" (.str t), kvP "l" (.ref D5), kvP "m" (.ref D7), kvP "r" (.ref D9), kvP "o" (vo)])
    have up15 := AtN.put (N := fun a => N a ∨ a = d) (H := H13) (d := d) (.inr rfl) (.dK [kvP "n" (V.int (r1 : Int)), kvP "k" (.int i2), kvP "b" (.bl bb), kvP "t" (.str t), kvP "l" (.ref D5), kvP "m" (.ref D7), kvP "r" (.ref D9), kvP "o" (vo)])
    have weak : ∀ {v : V} {H : Hp}, RVal 3 128 (AtN (fun a => N a ∨ a = d) H) v → RVal 3 128 (AtN N H) v := fun h => h.mono fun a u e => ⟨e.1, fun z => e.2 (.inl z)⟩
    refine ⟨_, rfl, q d _ _ j14.x j14.g upd_same nD rfl fun v hv => ?_⟩
    simp only [List.map_cons, List.map_nil, List.mem_cons, List.not_mem_nil, or_false] at hv
    rcases hv with rfl | rfl | rfl | rfl | rfl | rfl | rfl | rfl
    · exact RVal.num (by rw [Int.natAbs_natCast]; exact Nat.le_trans (Nat.le_of_lt hr1) (by decide)) (by decide) (by decide)
    · exact RVal.num hi2 (by decide) (by decide)
    · exact RVal.boo _ (by decide) (by decide)
    · exact RVal.txt hs4 (by decide) (by omega)
    · exact weak ((v6.mono up14).mono up15)
    · exact weak ((v8.mono up14).mono up15)
    · exact weak ((v12.mono up14).mono up15)
    · exact weak (rvo.mono up15)
end
end K19
/-! repr of an environment. -/
namespace K19
open PySem PySem.Spec PyProof.Rows L2
mutual
/-- a value as data -/
def dataV : Val → PyData
  | .nul => .none
  | .boo b => .bool b
  | .num i => .int i
  | .txt s => .str s
  | .lst l => .list (dataL l)
  | .rcd ks l => .dict ((ks.map PyData.str).zip (dataL l))
  | .act o n l => .tuple [.str "act", .int o, .str n, .list (dataL l)]
def dataL : List Val → List PyData
  | [] => []
  | x :: r => dataV x :: dataL r
end
theorem dataL_length : ∀ l : List Val, (dataL l).length = l.length
  | [] => rfl
  | x :: r => by simp [dataL, dataL_length r]
section
variable {X : Cx} {H : Hp} {s : Shared} {pins : List (Addr × Obj)} {σ : L2.St}
theorem reads_keys : ∀ {es : List DictEntry} {vs : List (Key × Value)} {ks : List Str}, Pairs (mixKind X.prog X.w) es vs → vs.map (·.1) = ks.map Sum.inr → ReadsAll s.heap (es.map (·.key)) (ks.map PyData.str) []
  | _, _, [], .nil, _ => .nil
  | _, _, _ :: _, .nil, e => by simp at e
  | _, _, [], .cons _ _ _, e => by simp at e
  | _, _, k :: ks, .cons h _ r, e => by
    simp only [List.map_cons, List.cons.injEq] at e; have h' : keyIs _ _ = true := h
    rw [e.1] at h'
    rcases keyIs_shape h' with ⟨_, _, e1, _⟩ | ⟨x, t, e1, e2⟩
    · cases e1
    · cases e1
      simp only [List.map_cons]
      rw [e2]
      exact .cons (as := []) (bs := []) (.str k t) (reads_keys r e.2)
theorem pairs_vals : ∀ {es : List DictEntry} {vs : List (Key × Value)}, Pairs (mixKind X.prog X.w) es vs → es.map (·.val) = vs.map (·.2)
  | _, _, .nil => rfl
  | _, _, .cons _ e r => by simp only [List.map_cons, e, pairs_vals r]
theorem kv_vals : ∀ {kvs : List (Key × V)} {vs : List (Key × Value)}, KV kvs vs → Vals (kvs.map (·.2)) (vs.map (·.2))
  | _, _, .nil => .nil
  | _, _, .cons h r => .cons h.2 (kv_vals r)
mutual
theorem Rep.reads (I : Inv X pins σ H s) (sm : H sysModules = none) : ∀ {v : V} {x : Val}, Rep (At H) v x → okV x = true → ∀ {u : Value}, RelV v u → ∃ as, Reads s.heap u (dataV x) as ∧ sysModules ∉ as
  | _, _, .nul, _, u, r => by
    cases r
    exact ⟨_, .none, fun h => nomatch h⟩
  | _, _, .boo b, _, u, r => by
    cases r
    exact ⟨_, .bool b, fun h => nomatch h⟩
  | _, _, .num i, _, u, r => by
    obtain ⟨t, rfl⟩ := r
    exact ⟨_, .int i t, fun h => nomatch h⟩
  | _, _, .txt z, _, u, r => by
    obtain ⟨t, rfl⟩ := r
    exact ⟨_, .str z t, fun h => nomatch h⟩
  | _, _, .lst (a := a) h rl, ho, u, r => by
    cases r
    obtain ⟨its, rv, ⟨o, n, hg, hc, _, hd⟩, _⟩ := I.list (SqL.of h)
    obtain ⟨as, h1, h2⟩ := RepL.reads I sm rl (by simpa [okV] using ho) rv
    refine ⟨_, .list hg hc hd h1, fun m => ?_⟩
    rcases List.mem_cons.mp m with e | m
    · have h : H _ = some _ := h
      rw [← e, sm] at h
      cases h
    · exact h2 m
  | _, _, .rcd (a := a) (kvs := kvs) (ks := ks) (l := l) h k rl, ho, u, r => by
    cases r
    obtain ⟨z, lo, vs, rel, o, es, ep, hg, hx, hdt, hk, hp, hn⟩ := dk_of I.hok h
    obtain ⟨as, h1, h2⟩ := RepL.reads I sm rl (ok_rcd ho).2.2.2 (kv_vals rel)
    have hl := (ok_rcd ho).2.1
    have e1 : (((ks.map PyData.str).zip (dataL l)).map (·.1)) = ks.map PyData.str := List.map_fst_zip (by rw [List.length_map, dataL_length]; omega)
    have e2 : (((ks.map PyData.str).zip (dataL l)).map (·.2)) = dataL l := List.map_snd_zip (by rw [List.length_map, dataL_length]; omega)
    refine ⟨_, .dict (as := []) (bs := as) hg hx.1 hdt ?_ ?_, fun m => ?_⟩
    · rw [e1]
      exact reads_keys (X := X) hp (rel.keys.symm.trans k)
    · rw [e2, pairs_vals hp]
      exact h1
    · rcases List.mem_cons.mp m with e | m
      · have h : H _ = some _ := h
        rw [← e, sm] at h
        cases h
      · exact h2 m
  | _, _, .act (a := a) (b := b) (o := oo) (n := n) (l := l) h g rl, ho, u, r => by
    cases r
    obtain ⟨its, rv, ⟨o, hg, hc, m, hd⟩, _⟩ := I.tuple (SqT.of h)
    cases rv with
    | cons r1 rv =>
    cases rv with
    | cons r2 rv =>
    cases rv with
    | cons r3 rv =>
    cases rv with
    | cons r4 rv =>
    cases rv
    obtain ⟨t1, rfl⟩ := r1
    obtain ⟨t2, rfl⟩ := r2
    obtain ⟨t3, rfl⟩ := r3
    cases r4
    obtain ⟨its2, rv2, ⟨o2, n2, hg2, hc2, _, hd2⟩, _⟩ := I.list (SqL.of g)
    obtain ⟨as, h1, h2⟩ := RepL.reads I sm rl (ok_parts (x := .act oo n l) ho) rv2
    refine ⟨_, .tuple hg hc hd (.cons (.str _ t1) (.cons (.int _ t2) (.cons (.str _ t3) (.cons (.list hg2 hc2 hd2 h1) .nil)))), fun m => ?_⟩
    simp only [List.nil_append, List.append_nil] at m
    rcases List.mem_cons.mp m with e | m
    · have g : H _ = some _ := g
      rw [← e, sm] at g
      cases g
    · exact h2 m
theorem RepL.reads (I : Inv X pins σ H s) (sm : H sysModules = none) : ∀ {xs : List V} {l : List Val}, RepL (At H) xs l → okL l = true → ∀ {us : List Value}, Vals xs us → ∃ as, ReadsAll s.heap us (dataL l) as ∧ sysModules ∉ as
  | _, _, .nil, _, us, r => by
    cases r
    exact ⟨_, .nil, fun h => nomatch h⟩
  | _, _, .cons h rl, ho, us, r => by
    simp only [okL, Bool.and_eq_true] at ho
    cases r with
    | cons r1 r2 =>
      obtain ⟨as, h1, h2⟩ := Rep.reads I sm h ho.1 r1
      obtain ⟨bs, h3, h4⟩ := RepL.reads I sm rl ho.2 r2
      exact ⟨_, .cons h1 h3, fun m => (List.mem_append.mp m).elim h2 h4⟩
end
end
/-! ### how long the text is -/
theorem shown_num {i : Int} (h : i.natAbs ≤ 1000000000000000000000000000000) : (PyData.shown (.int i)).length ≤ 40 := by
  have e : PyData.shown (.int i) = Str.ofString (toString i) := by simp only [PyData.shown]
  rw [e]
  exact numT_len h
theorem okS_short {s : Str} (h : okS s = true) : s.cps.toList.all (fun c => decide (c < 16 ^ 8)) = true := by
  unfold okS at h
  rw [Array.all_eq_true'] at h
  rw [List.all_eq_true]
  intro c hc
  have := h c (by simpa using hc)
  rw [decide_eq_true_eq] at this ⊢
  omega
mutual
theorem leaves_V : ∀ x : Val, okV x = true → txtV x = true → PyData.leavesShort 40 (dataV x) = true
  | .nul, _, _ => rfl
  | .boo b, _, _ => rfl
  | .num i, h, _ => by
    simp only [dataV, PyData.leavesShort]
    exact decide_eq_true (shown_num (num_le h))
  | .txt s, _, t => by
    simp only [dataV, PyData.leavesShort]
    exact okS_short (by simpa [txtV] using t)
  | .lst l, h, t => by
    simp only [dataV, PyData.leavesShort]
    exact leaves_L l (by simpa [okV] using h) (by simpa [txtV] using t)
  | .rcd ks l, h, t => by
    simp only [txtV, Bool.and_eq_true] at t
    simp only [dataV, PyData.leavesShort]
    exact leaves_K ks l t.1 (leaves_L l (ok_rcd h).2.2.2 t.2)
  | .act o n l, h, t => by
    simp only [txtV, Bool.and_eq_true] at t
    have h' := h
    simp only [okV, Bool.and_eq_true, decide_eq_true_eq] at h'
    simp only [dataV, PyData.leavesShort, PyData.leavesShortAll, Bool.and_eq_true, decide_eq_true_eq, Bool.and_true]
    refine ⟨by kernel_rfl, shown_num (Nat.le_trans h'.2 (by decide)), okS_short t.1, leaves_L l h'.1 t.2⟩
theorem leaves_L : ∀ l : List Val, okL l = true → txtL l = true → PyData.leavesShortAll 40 (dataL l) = true
  | [], _, _ => rfl
  | x :: r, h, t => by
    simp only [okL, Bool.and_eq_true] at h
    simp only [txtL, Bool.and_eq_true] at t
    simp only [dataL, PyData.leavesShortAll, Bool.and_eq_true]
    exact ⟨leaves_V x h.1 t.1, leaves_L r h.2 t.2⟩
theorem leaves_K : ∀ (ks : List Str) (l : List Val), okK ks = true → PyData.leavesShortAll 40 (dataL l) = true → PyData.leavesShortKv 40 ((ks.map PyData.str).zip (dataL l)) = true
  | [], _, _, _ => by simp [PyData.leavesShortKv]
  | _ :: _, [], _, _ => by simp [dataL, PyData.leavesShortKv]
  | k :: ks, x :: r, h, t => by
    simp only [okK, List.all_cons, Bool.and_eq_true] at h
    simp only [dataL, PyData.leavesShortAll, Bool.and_eq_true] at t
    simp only [List.map_cons, dataL, List.zip_cons_cons, PyData.leavesShortKv, PyData.leavesShort, Bool.and_eq_true]
    exact ⟨⟨okS_short h.1, t.1⟩, leaves_K ks r h.2 t.2⟩
end
mutual
theorem bulk_V : ∀ x : Val, PyData.bulk (dataV x) + 2 ≤ 9 * sizeV x
  | .nul => by simp [dataV, PyData.bulk, sizeV]
  | .boo b => by simp [dataV, PyData.bulk, sizeV]
  | .num i => by simp [dataV, PyData.bulk, sizeV]
  | .txt s => by
    simp only [dataV, PyData.bulk, sizeV]
    show s.length + 2 ≤ _
    omega
  | .lst l => by
    have := bulk_L l
    simp only [dataV, PyData.bulk, sizeV]
    omega
  | .rcd ks l => by
    have := bulk_L l
    have := bulk_K ks l
    simp only [dataV, PyData.bulk, sizeV]
    omega
  | .act o n l => by
    have := bulk_L l
    simp only [dataV, PyData.bulk, PyData.bulkAll, sizeV]
    have e : ("act" : Str).cps.size = 3 := rfl
    have e2 : n.cps.size = n.length := rfl
    rw [e, e2]
    omega
theorem bulk_L : ∀ l : List Val, PyData.bulkAll (dataL l) + l.length ≤ 9 * sizeL l
  | [] => Nat.zero_le _
  | x :: r => by
    have h1 := bulk_V x
    have h2 := bulk_L r
    simp only [dataL, PyData.bulkAll, sizeL, List.length_cons]
    omega
theorem bulk_K : ∀ (ks : List Str) (l : List Val), PyData.bulkKv ((ks.map PyData.str).zip (dataL l)) ≤ lens ks + PyData.bulkAll (dataL l) + l.length
  | [], l => by simp [PyData.bulkKv]
  | _ :: _, [] => by simp [dataL, PyData.bulkKv]
  | k :: ks, x :: r => by
    have h := bulk_K ks r
    simp only [List.map_cons, dataL, List.zip_cons_cons, PyData.bulkKv, PyData.bulk, PyData.bulkAll, lens, List.length_cons]
    have e2 : k.cps.size = k.length := rfl
    rw [e2]
    omega
end
theorem shown_fit {x : Val} (h : okV x = true) (t : txtV x = true) (z : sizeV x ≤ 5000) : (PyData.shown (dataV x)).length ≤ sizeLine := by
  have a := PyData.shown_le_bulk 40 (by decide) (dataV x) (leaves_V x h t)
  have b := bulk_V x
  exact le_line (by omega)
mutual
theorem showable_V : ∀ x : Val, okV x = true → PyData.showable (dataV x) = true
  | .nul, _ => rfl
  | .boo b, _ => rfl
  | .txt s, _ => rfl
  | .num i, h => by
    simp only [dataV, PyData.showable]
    exact decide_eq_true (log_small (num_le h))
  | .lst l, h => by
    simp only [dataV, PyData.showable]
    exact showable_L l (by simpa [okV] using h)
  | .rcd ks l, h => by
    simp only [dataV, PyData.showable]
    exact showable_K ks l (showable_L l (ok_rcd h).2.2.2)
  | .act o n l, h => by
    have h' := h
    simp only [okV, Bool.and_eq_true, decide_eq_true_eq] at h'
    simp only [dataV, PyData.showable, PyData.showableAll, Bool.and_eq_true, decide_eq_true_eq, Bool.and_true, true_and]
    exact ⟨log_small (Nat.le_trans h'.2 (by decide)), showable_L l h'.1⟩
theorem showable_L : ∀ l : List Val, okL l = true → PyData.showableAll (dataL l) = true
  | [], _ => rfl
  | x :: r, h => by
    simp only [okL, Bool.and_eq_true] at h
    simp only [dataL, PyData.showableAll, Bool.and_eq_true]
    exact ⟨showable_V x h.1, showable_L r h.2⟩
theorem showable_K : ∀ (ks : List Str) (l : List Val), PyData.showableAll (dataL l) = true → PyData.showableKv ((ks.map PyData.str).zip (dataL l)) = true
  | [], _, _ => by simp [PyData.showableKv]
  | _ :: _, [], _ => by simp [dataL, PyData.showableKv]
  | k :: ks, x :: r, t => by
    simp only [dataL, PyData.showableAll, Bool.and_eq_true] at t
    simp only [List.map_cons, dataL, List.zip_cons_cons, PyData.showableKv, PyData.showable, Bool.and_eq_true, true_and]
    exact ⟨t.1, showable_K ks r t.2⟩
end
mutual
theorem depth_V : ∀ x : Val, PyData.depth (dataV x) ≤ 2 * depthV x
  | .nul => Nat.zero_le _
  | .boo b => Nat.zero_le _
  | .num i => Nat.zero_le _
  | .txt s => Nat.zero_le _
  | .lst l => by
    have := depth_L l
    simp only [dataV, PyData.depth, depthV]
    omega
  | .rcd ks l => by
    have := depth_L l
    have := depth_K ks l
    simp only [dataV, PyData.depth, depthV]
    omega
  | .act o n l => by
    have := depth_L l
    simp only [dataV, PyData.depth, PyData.depthAll, depthV]
    omega
theorem depth_L : ∀ l : List Val, PyData.depthAll (dataL l) ≤ 2 * depthL l
  | [] => Nat.zero_le _
  | x :: r => by
    have h1 := depth_V x
    have h2 := depth_L r
    simp only [dataL, PyData.depthAll, depthL]
    omega
theorem depth_K : ∀ (ks : List Str) (l : List Val), PyData.depthKv ((ks.map PyData.str).zip (dataL l)) ≤ PyData.depthAll (dataL l)
  | [], l => by simp [PyData.depthKv]
  | _ :: _, [] => by simp [dataL, PyData.depthKv]
  | k :: ks, x :: r => by
    have h := depth_K ks r
    simp only [List.map_cons, dataL, List.zip_cons_cons, PyData.depthKv, PyData.depth, PyData.depthAll]
    omega
end
/-- repr of a record -/
def rReprV : List V → Hp → VK → Prop := fun xs H Q => ∃ d x, xs = [.ref d] ∧ Rep (At H) (.ref d) x ∧ okV x = true ∧ txtV x = true ∧ depthV x ≤ 20 ∧ sizeV x ≤ 5000 ∧ Q (.str (PyData.shown (dataV x))) H
theorem call_reprV {X : Cx} (hg : X.A.guards = some []) (hu : X.A.units + 64 < cLine) (hb : ∃ o, X.base.get? sysModules = some o) : CallR X (.builtin "repr") rReprV := by
  rintro pins s σ H xs us Q I r ⟨d, x, rfl, rep, ho, ht, hd, hz, q⟩
  obtain ⟨u, rfl, ru⟩ := vals1 r; cases ru
  obtain ⟨o, hb⟩ := hb
  have sm : H sysModules = none := (I.bs _ _ hb).2
  obtain ⟨as, hr, hs⟩ := Rep.reads I sm rep ho (u := .ref d) rfl
  have dd := depth_V x
  refine PySem.repr_of_reads' hr (showable_V x ho) (fun _ => hs) hg (by omega) (fun _ _ e => e) (fun h' u tk hk => ⟨.str _, H, I.kept (t' := tk) hk, ⟨u, rfl⟩, q⟩) (shown_fit ho ht hz)
end K19
/-! The law itself. -/
namespace K19
open PySem PySem.Spec PyProof.Rows L2
theorem sc_l_law : FnScope nm_l_law ["_law_script"] (defScope s_l_law) := ⟨rfl, rfl, rfl, by decide +kernel, rfl, by decide +kernel, by decide +kernel⟩

/-- an environment that was drawn -/
structure EnvD (H : Hp) (d : Addr) (kvs : List (Key × V)) (l : List Val) : Prop where
  at_ : H d = some (.dK kvs)
  ks : kvs.map (·.1) = envN.map Sum.inr
  rep : RepL (At H) (kvs.map (·.2)) l
  ok : okL l = true
  tx : txtL l = true
  dp : depthL l ≤ 3
  sz : sizeL l ≤ 1024
  gl : goodL l
theorem EnvD.same {H H' : Hp} {d : Addr} {kvs : List (Key × V)} {l : List Val} (h : EnvD H d kvs l) (s : Same H H') : EnvD H' d kvs l := ⟨s _ _ h.at_, h.ks, h.rep.same s, h.ok, h.tx, h.dp, h.sz, h.gl⟩
theorem EnvD.len {H : Hp} {d : Addr} {kvs : List (Key × V)} {l : List Val} (h : EnvD H d kvs l) : envN.length = l.length := by
  have a := congrArg List.length h.ks
  have b := h.rep.length
  simp only [List.length_map] at a b
  omega
theorem EnvD.okV {H : Hp} {d : Addr} {kvs : List (Key × V)} {l : List Val} (h : EnvD H d kvs l) : okV (.rcd envN l) = true := by
  simp only [K19.okV, Bool.and_eq_true, decide_eq_true_eq]
  exact ⟨⟨⟨⟨by decide, h.len⟩, by decide⟩, by kernel_rfl⟩, h.ok⟩
theorem EnvD.envOk {H : Hp} {d : Addr} {kvs : List (Key × V)} {l : List Val} (h : EnvD H d kvs l) {o : Int} (ho : o.natAbs ≤ 1000) : EnvOk H d envN l o 6 := ⟨⟨kvs, h.at_, h.ks, h.rep⟩, by decide, by decide, ho, h.gl⟩
theorem EnvD.env2 {H : Hp} {d : Addr} {kvs : List (Key × V)} {l : List Val} (h : EnvD H d kvs l) {o : Int} (ho : o.natAbs ≤ 1000) : EnvN (fun _ => False) H d envN l o 6 := ⟨⟨kvs, h.at_, h.ks, h.rep.mono fun _ _ e => ⟨e, id⟩⟩, by decide, by decide, ho, h.gl, id⟩
theorem EnvD.full {H : Hp} {d : Addr} {kvs : List (Key × V)} {l : List Val} (h : EnvD H d kvs l) : Rep (At H) (.ref d) (.rcd envN l) ∧ txtV (.rcd envN l) = true ∧ depthV (.rcd envN l) ≤ 20 ∧ sizeV (.rcd envN l) ≤ 5000 :=
  ⟨.rcd h.at_ h.ks h.rep, by
    simp only [txtV, h.tx, Bool.and_true]
    kernel_rfl, by
    have := h.dp
    simp only [depthV]
    omega, by
    have := h.sz
    have e : lens envN = 8 := by decide +kernel
    simp only [sizeV, e]
    omega⟩
theorem EnvD.of {N : Addr → Prop} {H : Hp} {d : Addr} {kvs : List (Key × V)} (h : H d = some (.dK kvs)) (hk : kvs.map (·.1) = envN.map Sum.inr) (hv : ∀ v ∈ kvs.map (·.2), RVal 3 128 (AtN N H) v) : ∃ l, EnvD H d kvs l := by
  obtain ⟨l, a1, a2, a3, a4, a5⟩ := RVal.list hv
  have e : (kvs.map (·.2)).length = 8 := by
    have := congrArg List.length hk
    simp only [List.length_map] at this ⊢
    exact this
  rw [e] at a5
  exact ⟨l, h, hk, a1.mono fun _ _ e => e.1, a2, a3, a4, a5, fun x hx => ⟨okL_mem a2 hx, by have := depthL_mem hx; omega, by have := sizeL_mem hx; omega⟩⟩
theorem SX.fresh {H1 H2 : Hp} {p : Addr} {u : HO} (hp : H1 p = none) (x : SX p (upd H1 p u) H2) : Same H1 H2 := fun a o e => x a o (fun z => by rw [z, hp] at e; cases e) (same_new hp u a o e)
theorem SqL.same {K : PySem.W.Frag} {H H' : Hp} {b : Addr} {xs : List V} (h : SqL K H b xs) (s : Same H H') : SqL K H' b xs :=
  h.elim (fun h => .inl (h.elim (fun h => .inl (s _ _ h)) fun ⟨o, h⟩ => .inr ⟨o, s _ _ h⟩)) fun h => .inr h
/-- what was told, and of what it is made -/
structure Told (H H' : Hp) (t : Addr) (r : Res) : Prop where
  rs : ResAt (At H') t r
  ow : ∃ u w x F, H' t = some (.tup [u, w]) ∧ Own H' u x F ∧ F.Nodup ∧ (∀ a ∈ F, H a = none) ∧ okV x = true ∧ depthV x ≤ 20 ∧ sizeV x ≤ 9000000
theorem AnsV.of {H : Hp} {r : Res} {Q : VK} (g : ∀ y, r = .ok y → good y) (h : ∀ t H', Same H H' → Told H H' t r → Q (.ref t) H') : AnsV H r Q := by
  cases r with
  | ok y =>
    intro t u H' s ht fr
    obtain ⟨F, o, nd, ff⟩ := fr
    have gy := g y rfl
    exact h t H' s ⟨⟨u, ht, o.at_⟩, u, _, y, F, ht, o, nd, ff, gy.1, gy.2.1, by have := gy.2.2; omega⟩
  | error m =>
    intro t H' s ht
    exact h t H' s ⟨ht, _, _, .nul, [], ht, .nul, List.nodup_nil, fun _ h => (nomatch h), rfl, by decide, by decide⟩
theorem expr_any {st b : Addr} {r want : Nat} {H : Hp} {Q : VK} {E : XK} {N : Addr → Prop} (hr : r < 4) (hw : want < 6) (hN : N st) (n : NOk N H) (g : Sg st H) (hb : H b = some (.lst [])) {v1 : V} (e1 : v1 = .int ((r + 1 : Nat) : Int))
    (q : ∀ v H' e, SX st H H' → Sg st H' → RepE (AtN N H') v e → wfE e envN = true → depE e ≤ 6 → Q v H') {vs : List V} (hvs : vs = [.ref st, v1, .int (want : Int), .ref b]) : spLExp 2 vs H Q E ∨ spLExp 3 vs H Q E ∨ spLExp 4 vs H Q E ∨ spLExp 5 vs H Q E := by
  have key : spLExp (r + 2) vs H Q E := by
    refine ⟨r + 1, N, st, want, b, [], rfl, by rw [hvs, e1], by omega, hN, n, g, hb, ⟨by show 0 + (r + 1) ≤ 5; omega, fun _ h => nomatch h⟩, by omega, fun v H' x g' re => ?_⟩
    obtain ⟨e, a1, a2, a3⟩ := re
    rw [List.append_nil] at a2
    exact q v H' e x g' a1 a2 (by omega)
  have c : r = 0 ∨ r = 1 ∨ r = 2 ∨ r = 3 := by omega
  rcases c with rfl | rfl | rfl | rfl
  · exact .inl key
  · exact .inr (.inl key)
  · exact .inr (.inr (.inl key))
  · exact .inr (.inr (.inr key))
section
variable {P : Program} {w : World} {K : PySem.W.Frag} {mg : Str → Option Value} {base : Heap} {a : Ads}
def spLaw (K : PySem.W.Frag) (B : Nat) : Sp := fun vs H Q _ => ∃ (b : Addr) (ns : List Int), vs = [.ref b] ∧ SqL K H b (ns.map V.int) ∧ ns.length ≤ 1000000000 ∧ (∀ c ∈ ns, c.natAbs < 2 ^ B) ∧ ∀ H', Q (.bl true) H'
def shE (l : List Val) : Str := PyData.shown (dataV (.rcd envN l))
theorem law_body (T : Txt P w K mg a) (B : Nat) {f : Addr} {cdv : Value} {A : Around} {outer : List Env} {s : Shared} {H : Hp} {vs : List V} {Q : VK} {E : XK} {k : Nat} (hk : 90 ≤ k) (hr : Room k (A.deeper (envOfC "law" (defScope s_l_law) s.heap.objs.size f cdv)))
    (hgd : (A.deeper (envOfC "law" (defScope s_l_law) s.heap.objs.size f cdv)).guards = some []) (hsm : ∃ o, base.get? sysModules = some o) (h : spLaw K B vs H Q E) :
    ∃ t, PSs (cxOf CX0 P w K mg base nm_l_law "law" (defScope s_l_law) f cdv A outer s H E).nox (defBody s_l_law) t ∧ t { nx := fun _ H' => Q .non H', rt := Q } (start nm_l_law vs) H := by
  have G_l_cell := ok_l_cell (base := base) T B
  have G_l_start := ok_l_start (base := base) T
  have G_l_digit := ok_l_digit (base := base) T
  have G_l_environment := ok_l_environment (base := base) T
  have G_l_expression := FnOk.orr ((ok_l_expression (base := base) T 2).mono (by decide : 11 ≤ 20)) (FnOk.orr ((ok_l_expression (base := base) T 3).mono (by decide : 14 ≤ 20)) (FnOk.orr ((ok_l_expression (base := base) T 4).mono (by decide : 17 ≤ 20)) (ok_l_expression (base := base) T 5)))
  have G_l_evaluated := ok_l_evaluated (base := base) T 6
  have G_l_eval := ok_l_eval (base := base) T 6
  have G_l_right := ok_l_right (base := base) T
  have G_l_spoil := ok_l_spoil (base := base) T 20
  obtain ⟨b, ns, rfl, hb, hlen, hbits, q⟩ := h
  refine ⟨_, (pss_cons (ps_for PassesOwn.never rfl (pi_range1 rfl T.b_range (pa_cons (pe_callB (call_min2 rfl) rfl T.b_min (by decide +kernel) (pa_cons pe_int (pa_cons (pe_callB (call_max2 rfl) rfl T.b_max (by decide +kernel) (pa_cons pe_int (pa_cons (pe_op op_fdiv (pe_callB call_len_seq rfl T.b_len (by decide +kernel) (pa_cons (pv 0) pa_nil)) pe_int) pa_nil))) pa_nil))) pa_nil)) (pg_name (i := 1) sc_l_law.nd rfl (Or.inl rfl)) (pss_cons (ps_set (i := 2) sc_l_law.nd rfl (Or.inl rfl) (pe_cd T.l_environment G_l_environment (hr.mono (by omega)) pass0 (pa_cons (pe_cd T.l_start G_l_start (hr.mono (by omega)) pass0 (pa_cons (pe_cd T.l_cell G_l_cell (hr.mono (by omega)) pass0 (pa_cons (pv 0) (pa_cons (pe_op op_mul pe_int (pv 1)) pa_nil))) (pa_cons (pv 1) pa_nil))) pa_nil)))
      (pss_cons (ps_set (i := 3) sc_l_law.nd rfl (Or.inl rfl) (pe_callB (call_reprV hgd hr.units hsm) rfl T.b_repr (by decide +kernel) (pa_cons (pv 2) pa_nil)))
      (pss_one (ps_for PassesOwn.never rfl (pi_range1 rfl T.b_range (pa_cons pe_int pa_nil)) (pg_name (i := 4) sc_l_law.nd rfl (Or.inl rfl)) (pss_cons (ps_set (i := 5) sc_l_law.nd rfl (Or.inl rfl) (pe_cd T.l_start G_l_start (hr.mono (by omega)) pass0 (pa_cons (pe_cd T.l_cell G_l_cell (hr.mono (by omega)) pass0 (pa_cons (pv 0) (pa_cons (pe_op op_add (pe_op op_add (pe_op op_mul pe_int (pv 1)) pe_int) (pv 4)) pa_nil))) (pa_cons (pv 1) pa_nil))))
      (pss_cons (ps_set (i := 6) sc_l_law.nd rfl (Or.inl rfl) (pe_cd T.l_digit G_l_digit (hr.mono (by omega)) pass0 (pa_cons (pv 5) (pa_cons pe_int pa_nil))))
      (pss_cons (ps_set (i := 7) sc_l_law.nd rfl (Or.inl rfl) (pe_cd T.l_expression G_l_expression (hr.mono (by omega)) pass0 (pa_cons (pv 5) (pa_cons (pe_op op_add pe_int (pe_cd T.l_digit G_l_digit (hr.mono (by omega)) pass0 (pa_cons (pv 5) (pa_cons pe_int pa_nil)))) (pa_cons (pv 6) (pa_cons (pe_lst pa_nil) pa_nil))))))
      (pss_cons (ps_set (i := 8) sc_l_law.nd rfl (Or.inl rfl) (pe_cd T.l_digit G_l_digit (hr.mono (by omega)) pass0 (pa_cons (pv 5) (pa_cons pe_int pa_nil))))
      (pss_cons (ps_set (i := 9) sc_l_law.nd rfl (Or.inl rfl) (pe_cd T.l_evaluated G_l_evaluated (hr.mono (by omega)) pass0 (pa_cons (pv 7) (pa_cons (pv 2) (pa_cons (pv 8) pa_nil)))))
      (pss_cons (ps_if (PW.pt (pw_or (pt_not (pt_val (pe_cd T.l_right G_l_right (hr.mono (by omega)) pass0 (pa_cons (pv 9) (pa_cons (pe_cd T.l_eval G_l_eval (hr.mono (by omega)) pass0 (pa_cons (pv 7) (pa_cons (pv 2) (pa_cons (pv 8) pa_nil)))) pa_nil))))) (pw_or1 (pt_cmpR op_ne (pe_callB (call_reprV hgd hr.units hsm) rfl T.b_repr (by decide +kernel) (pa_cons (pv 2) pa_nil)) (pv 3) (nomark _))))) (pss_one (ps_ret pe_bl)) pss_nil)
      (pss_cons (ps_expr (pe_cd T.l_spoil G_l_spoil (hr.mono (by omega)) pass0 (pa_cons (pe_ix ix_tup (pv 9) pe_int (fun _ _ => rfl)) pa_nil)))
      (pss_cons (ps_if (pt_cmpR op_ne (pe_callB (call_reprV hgd hr.units hsm) rfl T.b_repr (by decide +kernel) (pa_cons (pv 2) pa_nil)) (pv 3) (nomark _)) (pss_one (ps_ret pe_bl)) pss_nil)
      (pss_cons (ps_set (i := 9) sc_l_law.nd rfl (Or.inl rfl) (pe_cd T.l_evaluated G_l_evaluated (hr.mono (by omega)) pass0 (pa_cons (pv 7) (pa_cons (pv 2) (pa_cons (pv 8) pa_nil)))))
      (pss_one (ps_if (pt_not (pt_val (pe_cd T.l_right G_l_right (hr.mono (by omega)) pass0 (pa_cons (pv 9) (pa_cons (pe_cd T.l_eval G_l_eval (hr.mono (by omega)) pass0 (pa_cons (pv 7) (pa_cons (pv 2) (pa_cons (pv 8) pa_nil)))) pa_nil))))) (pss_one (ps_ret pe_bl)) pss_nil))))))))))))))))
      (pss_one (ps_ret pe_bl))), ?_⟩
  refine ⟨_, rfl, b, _, rfl, .inl hb, _, _, rfl, rfl, ⟨by decide, by decide⟩, _, _, rfl, _, _, rfl, _, rfl, ?_, ?_, ?_⟩
  · split <;> (try split) <;> omega
  · split <;> (try split) <;> omega
  have jle : ∀ m : Int, (if m < 9 then m else (9 : Int)).toNat ≤ 9 := fun m => by split <;> omega
  refine for_range (fun i σ H1 => ∃ o1 o2 o3 o4 o5 o6 o7 o8 o9, σ = [some (.ref b), o1, o2, o3, o4, o5, o6, o7, o8, o9] ∧ SqL K H1 b (ns.map V.int)) ⟨none, none, none, none, none, none, none, none, none, rfl, hb⟩ ?_ ?_
  · rintro i σ H1 hi ⟨o1, o2, o3, o4, o5, o6, o7, o8, o9, rfl, hb1⟩
    have hi9 : i < 9 := Nat.lt_of_lt_of_le hi (jle _)
    clear hi jle
    refine ⟨_, rfl, _, rfl, _, _, rfl, rfl, .inl ⟨by decide, by omega⟩, b, ns, 3 * i, ?_, hb1, hbits, fun c hc => ⟨_, rfl, c, i, ?_, by omega, fun p n hp => ?_⟩⟩
    · show [V.ref b, V.int (3 * (0 + (i : Int)))] = _
      rw [show (3 * (0 + (i : Int))) = ((3 * i : Nat) : Int) by omega]
    · show [V.int c, V.int (0 + (i : Int))] = _
      rw [Int.zero_add]
    refine ⟨fun a => a = p, p, rfl, rfl, fun a ha => ?_, ⟨n, upd_same⟩, fun d kvs H2 x2 g2 hd nd hk hv => ?_⟩
    · rw [ha, upd_same]
      simp
    have s2 := SX.fresh hp x2
    obtain ⟨l, env⟩ := EnvD.of hd hk hv
    have hb2 := SqL.same hb1 s2
    clear x2 g2 hd nd hk hv s2 hb1 hp
    have ful := env.full
    refine ⟨_, rfl, d, _, rfl, ful.1, env.okV, ful.2.1, ful.2.2.1, ful.2.2.2, ?_⟩
    refine ⟨_, rfl, by decide, by decide, ?_⟩
    refine for_range (n := 2) (fun j σ H3 => ∃ o4 o5 o6 o7 o8 o9, σ = [some (.ref b), some (.int (0 + (i : Int))), some (.ref d), some (.str (shE l)), o4, o5, o6, o7, o8, o9] ∧ SqL K H3 b (ns.map V.int) ∧ EnvD H3 d kvs l) ⟨o4, o5, o6, o7, o8, o9, rfl, hb2, env⟩ ?_ ?_
    · clear ful env hb2
      rintro j σ H3 hj ⟨o4, o5, o6, o7, o8, o9, rfl, hb3, env⟩
      refine ⟨_, rfl, _, rfl, _, _, rfl, rfl, .inl ⟨by decide, by omega⟩, _, _, rfl, rfl, _, rfl, _, _, rfl, rfl, b, ns, 3 * i + 1 + j, ?_, hb3, hbits, fun c hc => ⟨_, rfl, c, i, ?_, by omega, fun p n hp => ?_⟩⟩
      · show [V.ref b, V.int (3 * (0 + (i : Int)) + 1 + (0 + (j : Int)))] = _
        rw [show (3 * (0 + (i : Int)) + 1 + (0 + (j : Int))) = ((3 * i + 1 + j : Nat) : Int) by omega]
      · show [V.int c, V.int (0 + (i : Int))] = _
        rw [Int.zero_add]
      refine ⟨_, rfl, p, 6, rfl, by decide, by decide, ⟨n, upd_same⟩, fun want H4 hw x4 g4 => ?_⟩
      refine ⟨_, rfl, _, rfl, p, 4, rfl, by decide, by decide, g4, fun r H5 hr5 x5 g5 => ⟨_, _, rfl, rfl, _, rfl, by show 0 ≤ sizeLine; decide, fun b2 hb2 => ?_⟩⟩
      have x5' := x4.trans x5
      have s5 := same_new hb2 (.lst [])
      refine expr_any (N := fun a => a = p) hr5 hw rfl (fun a ha => ?_) (g5.same s5) upd_same (v1 := .int (1 + (r : Int))) (by rw [show (1 + (r : Int)) = ((r + 1 : Nat) : Int) by omega]) (fun v H7 e x7 g7 re wf dp => ?_) rfl
      · rw [ha]
        exact fun z => by
          obtain ⟨k, hk⟩ := g5.same s5
          rw [hk] at z
          cases z
      have x7' := x5'.trans ((SX.of s5).trans x7)
      refine ⟨_, rfl, p, 9, rfl, by decide, by decide, g7, fun ow H8 ho x8 g8 => ?_⟩
      have s8 : Same H3 H8 := SX.fresh hp (x7'.trans x8)
      have re8 : RepE (At H8) v e := re.mono fun a u z => x8 a u z.2 z.1
      have env8 := env.same s8
      have hb8 := SqL.same hb3 s8
      clear x4 g4 x5 g5 x5' s5 x7 g7 re x7' x8 g8 s8 hb3 env hb2 hp
      have ho9 : ((ow : Nat) : Int).natAbs ≤ 1000 := by
        rw [Int.natAbs_natCast]
        omega
      have gd : ∀ y, evE (ow : Int) e envN l = .ok y → good y := fun y hy => good_evE ho9 e envN l y wf env8.gl hy
      refine ⟨_, rfl, _, rfl, _, rfl, v, e, d, envN, l, _, rfl, re8, env8.envOk ho9, wf, dp, AnsV.of gd fun t H9 s9 tl => ?_⟩
      have env9 := env8.same s9
      refine ⟨_, rfl, _, rfl, _, rfl, _, rfl, fun _ => False, v, e, d, envN, l, _, rfl, re8.same s9, env9.env2 ho9, wf, dp, ⟨fun _ h => (nomatch h), fun t2 H10 s10 rt2 => ⟨fun _ => False, t, t2, _, rfl, ResAt.mono (fun a u z => s10 a u z) tl.rs, rt2, gd, fun H11 s11 => ⟨true, rfl, ?_⟩⟩⟩⟩
      have s9b := s10.trans s11
      have env11 := env9.same s9b
      have ful := env11.full
      refine iteE rfl ⟨_, rfl, d, _, rfl, ful.1, env11.okV, ful.2.1, ful.2.2.1, ful.2.2.2, _, rfl, rfl, _, rfl, iteE (by simp [shE]) ?_⟩
      obtain ⟨u, w9, x, F, ht, own, nd, ff, okx, dx, zx⟩ := tl.ow
      refine ⟨_, rfl, t, _, 0, u, rfl, rfl, SqT.of (s9b _ _ ht), rfl, u, x, F, rfl, own.same s9b, nd, okx, dx, zx, fun H12 bt => ?_⟩
      have s12 : Same H8 H12 := fun a o z => bt a o (fun m => by rw [ff a m] at z; cases z) (s9b _ _ (s9 _ _ z))
      have env12 := env8.same s12
      have ful := env12.full
      refine ⟨_, rfl, d, _, rfl, ful.1, env12.okV, ful.2.1, ful.2.2.1, ful.2.2.2, _, rfl, rfl, _, rfl, iteE (by simp [shE]) ?_⟩
      refine ⟨_, rfl, _, rfl, _, rfl, v, e, d, envN, l, _, rfl, re8.same s12, env12.envOk ho9, wf, dp, AnsV.of gd fun t3 H13 s13 tl3 => ?_⟩
      have env13 := env12.same s13
      refine ⟨_, rfl, _, rfl, _, rfl, _, rfl, fun _ => False, v, e, d, envN, l, _, rfl, (re8.same s12).same s13, env13.env2 ho9, wf, dp, ⟨fun _ h => (nomatch h), fun t4 H14 s14 rt4 => ⟨fun _ => False, t3, t4, _, rfl, ResAt.mono (fun a u z => s14 a u z) tl3.rs, rt4, gd, fun H15 s15 => ⟨true, rfl, ?_⟩⟩⟩⟩
      have s16 := s12.trans (s13.trans (s14.trans s15))
      refine iteE rfl ⟨_, _, _, _, _, _, rfl, SqL.same hb8 s16, env8.same s16⟩
    · rintro σ H3 ⟨o4, o5, o6, o7, o8, o9, rfl, hb3, env⟩
      exact ⟨_, _, _, _, _, _, _, _, _, rfl, hb3⟩
  · rintro σ H1 ⟨o1, o2, o3, o4, o5, o6, o7, o8, o9, rfl, hb1⟩
    exact q H1
end
end K19
/-! The end: the law as it is called, at the caller's own frame (where the guard list is known to be empty). -/
namespace K19
open PySem PySem.Spec PyProof.Rows L2
/-- the law's run at the caller -/
def RunL (P : Program) (w : World) (K : PySem.W.Frag) (mg : Str → Option Value) (base : Heap) (fa : Addr) (fd : FuncData) (sp : Sp) : Prop :=
  ∀ (s : Shared) (H : Hp) (args : Args) (us : List Value) (vs : List V) (Q : VK) (E : XK), Env0 P w K mg base callerA [] s H → BindsTo s fd args (([("_law_script" : Str)]).zip us) → Vals vs us → sp vs H Q E → codeAny (model P w) callerA (.call (.ref fa) args) (CR CX0 [] P w H s Q E) s
theorem room_caller : Room 91 callerA := ⟨rfl, by decide, by decide⟩
section
variable {P : Program} {w : World} {K : PySem.W.Frag} {mg : Str → Option Value} {base : Heap} {a : Ads}
theorem law_run (T : Txt P w K mg a) (B : Nat) (hsm : ∃ o, base.get? sysModules = some o) {fa : Addr} {fd : FuncData} (F : Fun K "law" "law" s_l_law fa fd) : RunL P w K mg base fa fd (spLaw K B) := by
  intro s H args us vs Q E e0 hb rv hsp
  obtain ⟨_, _, _, _, _, _, cdv, _, _, rfl, lk, hcd⟩ := F.ex
  have hv : vs.length = ([("_law_script" : Str)]).length := by
    obtain ⟨b, ns, rfl, _⟩ := hsp
    rfl
  have old := fun (b : Addr) (o : Obj) (e : base.get? b = some o) => (e0.bs b o e).1
  have KX : K.In s.heap := e0.mod.kin.keeps old
  have lim : s.heap.NoLimit := e0.mod.nolimit.keeps old
  have S := sc_l_law
  refine codeAny_call_function room_caller.depth (KX _ _ lk) rfl S.co S.gen rfl (PySem.W.codeRec_of KX hcd) (hb _ _ _ _ ?_)
  refine wpAny_newFunctionEnv_cells S.kind (fun ⟨n, v⟩ hy => (S.par n (List.of_mem_zip hy).1).imp id fun q => ⟨q, PySem.W.cellsFrom_some _ _ _ (.inl q)⟩) fun env he s1 x => ?_
  subst he; refine ⟨lim.keeps x.toInCall.keep, codeAny_func ?_⟩
  obtain ⟨t, ht, hq⟩ := law_body (cdv := cdv) (A := callerA) (outer := []) (s := s) T B (Nat.le_refl 90) (room_caller.deeper _) rfl hsm hsp
  have I : Inv (cxOf CX0 P w K mg base nm_l_law "law" (defScope s_l_law) fa cdv callerA [] s H E) [] (start nm_l_law vs) H s1 := inv_start S room_caller.hd e0 hv rv x
  refine wpAny_mono (ht.nox.run [] s1 (start nm_l_law vs) H _ I hq) (fun fl s' hs => ?_) fun e s' hs => hs
  have toEnd : ∀ {σ' : L2.St} {H' : Hp} {v : V} {u : Value}, Inv (cxOf CX0 P w K mg base nm_l_law "law" (defScope s_l_law) fa cdv callerA [] s H E) [] σ' H' s' → RelV v u → Q v H' → CE [] P w H s Q u s' :=
    fun {σ' H' v u} J r q => ⟨v, H', J.os, J.bare, J.base, J.hok, r, q⟩
  cases fl with
  | next =>
    obtain ⟨σ', H', J, q⟩ := hs
    exact toEnd (v := V.non) (u := Value.none) J rfl q
  | ret u =>
    obtain ⟨v, σ', H', J, r, q⟩ := hs
    exact toEnd J r q
  | brk =>
    obtain ⟨_, _, _, q⟩ := hs
    exact q.elim
  | cont =>
    obtain ⟨_, _, _, q⟩ := hs
    exact q.elim
end
/-- the heap in which the script alone is told -/
def scriptH (b : Addr) (o : Obj) (xs : List V) : Hp := fun c => if c = b then some (.frz o (.lst xs)) else none
theorem law_end {P : Program} {w : World} {K : PySem.W.Frag} {mg mb : Str → Option Value} {fa b : Addr} {fd : FuncData} {sp : Sp} {s₁ : Shared} {vs : List Value} {ns : List Int}
    (KX : K.In s₁.heap) (hns : s₁.heap.Ns mainGlobals mg) (hb : s₁.heap.Ns builtinsNs mb) (hbb : ∀ x : Str, x ≠ "__name__" → mb x = bootBuiltins x) (hlim : s₁.heap.NoLimit) (hsy : ∃ mm, s₁.heap.Ns sysModules mm) (hg : s₁.gens = #[])
    (ha : s₁.heap.get? b = some { cls := .type "list", data := .seq vs.toArray }) (hi : IntsAre vs ns) (hl : ns.length ≤ sizeLine)
    (F : ∀ base : Heap, K.In base → base.Ns mainGlobals mg → (∃ o, base.get? sysModules = some o) → RunL P w K mg base fa fd sp) (hbind : ∀ (s : Shared) (u : Value), BindsTo s fd ⟨[u], []⟩ [("_law_script", u)])
    (hsp : ∀ H : Hp, SqL K H b (ns.map V.int) → sp [.ref b] H (fun v _ => v = .bl true) fun _ _ _ => False) :
    codeAny (model P w) callerA (.call (.ref fa) ⟨[.ref b], []⟩) (fun r s' => r = .ok (.ret (.bool true)) ∧ OldK s₁.heap s'.heap ∧ s'.os = s₁.os ∧ AllBare s'.gens) s₁ := by
  have rv := vals_ints hi
  have ho : (scriptH b { cls := .type "list", data := .seq vs.toArray } (ns.map V.int)) b = some (.frz { cls := .type "list", data := .seq vs.toArray } (.lst (ns.map V.int))) := if_pos rfl
  -- the heap told: nothing when the module's own top holds the script, else the script alone
  obtain ⟨H, hH, hS, hK⟩ : ∃ H : Hp, (∀ c u, H c = some u → c = b ∧ u = .frz { cls := .type "list", data := .seq vs.toArray } (.lst (ns.map V.int))) ∧ SqL K H b (ns.map V.int) ∧ (H b ≠ none → K.lookup b = none) := by
    cases hk : K.lookup b with
    | some o =>
      have e := KX b o hk
      rw [ha] at e
      cases e
      exact ⟨fun _ => none, fun c u z => (by cases (show (none : Option HO) = some u from z)), .inr ⟨_, vs.toArray, _, hk, rfl, rfl, rfl, by rw [List.size_toArray, hi.length]; exact hl, by simpa using rv⟩, fun z => absurd rfl z⟩
    | none =>
      refine ⟨scriptH b _ (ns.map V.int), fun c u z => ?_, .inl (.inr ⟨_, ho⟩), fun _ => rfl⟩
      by_cases e : c = b
      · rw [e, ho] at z
        cases z
        exact ⟨e, rfl⟩
      · rw [show scriptH b _ (ns.map V.int) c = none from if_neg e] at z
        cases z
  have hok : HOk P w H s₁.heap := fun c u z => by
    obtain ⟨rfl, rfl⟩ := hH c u z; exact ⟨ha, (List.length_map (as := ns) V.int).symm ▸ hl, vs, _, rv, ha⟩
  have dictFree : ∀ {c : Addr} {o : Obj} {es : Array DictEntry} {ep : Nat}, s₁.heap.get? c = some o → o.data = .dict es ep → H c = none := fun {c o es ep} e d => by
    cases q : H c with
    | none => rfl
    | some u =>
      obtain ⟨rfl, _⟩ := hH c u q
      rw [ha] at e
      cases e
      cases (show Data.seq vs.toArray _ = Data.dict es ep from d)
  have stays : ∀ {c : Addr} {m : Str → Option Value}, s₁.heap.Ns c m → (hidT s₁.heap H).Ns c m := fun ⟨o, es, ep, e, d, r⟩ => ⟨o, es, ep, hidT_get e (dictFree e d), d, r⟩
  have hKb : K.In (hidT s₁.heap H) := fun c o e => hidT_get (KX c o e) (by
    cases q : H c with
    | none => rfl
    | some u =>
      obtain ⟨rfl, _⟩ := hH c u q
      exact nomatch (hK (by rw [q]; simp)).symm.trans e)
  have hM : Mod K mg (hidT s₁.heap H) := ⟨hKb, stays hns, ⟨mb, stays hb, hbb⟩, let ⟨mc, h1, h2⟩ := hlim; ⟨mc, stays h1, h2⟩⟩
  have e0 : Env0 P w K mg (hidT s₁.heap H) callerA [] s₁ H := ⟨rfl, hM, fun c o e => of_hidT e, Nat.le_of_eq (hidT_size _ _), trivial, fun c hc => (nomatch (show c ∈ ([] : List Addr) from hc)), hok, .of_eq hg⟩
  have hsm : ∃ o, (hidT s₁.heap H).get? sysModules = some o := let ⟨mm, h⟩ := hsy; let ⟨o, _, _, e, _⟩ := stays h; ⟨o, e⟩
  refine codeAny_mono (F _ hKb (stays hns) hsm s₁ H ⟨[.ref b], []⟩ [.ref b] [.ref b] _ _ e0 (hbind s₁ (.ref b)) (.cons rfl .nil) (hsp H hS)) fun r s' h => ?_
  cases r with
  | error e => exact h.elim
  | ok fl =>
    cases fl with
    | ret u =>
      obtain ⟨v, H', os, bare, un, hok', is_, q⟩ := h
      obtain rfl : v = .bl true := q
      obtain rfl : u = .bool true := is_
      refine ⟨rfl, OldK.of_keep fun c o e => ?_, os, bare⟩
      cases q : H c with
      | none => exact un.keep c o e q (fun z => (nomatch (show c ∈ ([] : List Addr) from z))) (by simp)
      | some u =>
        obtain ⟨rfl, rfl⟩ := hH c u q
        have e1 := (hok c _ q).1
        have e2 := (hok' c _ (un.frzs c _ _ q)).1
        rw [e1] at e
        cases e
        exact e2
    | next => exact h.elim
    | brk => exact h.elim
    | cont => exact h.elim
theorem bits_lt {c : Int} {k : Nat} (h : Builtin.Int.intBits c ≤ k) : c.natAbs < 2 ^ k := by
  unfold Builtin.Int.intBits at h; by_cases z : c = 0
  · rw [z]
    exact Nat.pow_pos (by decide)
  · rw [if_neg (by simpa using z)] at h
    exact (Nat.log2_lt (by omega)).mp (by omega)
theorem law_walk {l : PySem.W.OpenLaw} {q : Program} {loose : List Str} {XP : (Str → Option Value) → Heap → Prop} {YP : World → Heap → Prop} {d : DefRec} {K : Params → PySem.W.Frag} {B : Nat} (hB : B = 1048576) (hn : l.most = some 63) (hdf : d.params.defaults = []) (hq : importsNone q = true)
    (hY : ∀ (w : World) (h : Heap), YP w h → (K w.params).In h)
    (F : ∀ (w : World) (mg : Str → Option Value) (fa : Addr) (h : Heap), (K w.params).In h → h.Ns mainGlobals mg → mg d.name = some (.ref fa) →
      ∃ fd : FuncData, (∀ (s : Shared) (u : Value), BindsTo s fd ⟨[u], []⟩ [("_law_script", u)]) ∧
        ∀ base : Heap, (K w.params).In base → base.Ns mainGlobals mg → (∃ o, base.get? sysModules = some o) → RunL l.prog w (K w.params) mg base fa fd (spLaw (K w.params) B)) :
    PySem.W.WalkO q loose XP YP l.row.toRowW d [] (fun f vs => PySem.call f vs) := Att.attach_callB hn hdf fun w s₀ s₁ mg mb fa o pm cd doc b vs ns G Y ho hd hcd hmg hobj hints hlen hbits hg => by
  obtain ⟨fd, hb, hF⟩ := F w mg fa _ (hY w _ Y) G.T.g hmg
  exact law_end (hY w _ Y) G.T.g G.T.b G.T.builtins G.T.nolimit (let ⟨mm, h, _⟩ := (G.T.seer hq).mods; ⟨mm, h⟩) hg hobj hints (Nat.le_trans hlen (by decide)) hF hb fun H hS => ⟨b, ns, rfl, hS, Nat.le_trans hlen (by decide), fun c hc => bits_lt (hB ▸ hbits c hc), fun _ => rfl⟩
end K19
/-! What the top has written, def by def. -/
namespace K19
open PySem PySem.Spec PyProof.Rows L2
theorem def_mk {K : PySem.W.Frag} {h : Heap} {mg : Str → Option Value} (X : K.In h) (G : h.Ns mainGlobals mg) {x : Str} {st : Stmt} {ps : List Str} {f : Addr} {oc : Value} {od an : Option Addr} {osl : Array (Option Value)} {kV doc pm cdv ct : Value}
    (hb : ∀ (kV doc pm : Value) (an : Option Addr) (cdv ct : Value) (us : List Value), us.length = ps.length → bindArgs (PySem.W.fnOf x x (defArgs st) (defBody st) (defScope st) .none kV doc pm an cdv ct) ⟨us, []⟩ = pure (ps.zip us))
    (a : PySem.W.nsIn K mainGlobals x = some (some (.ref f))) (l : K.lookup f = some ⟨oc, od, .func (PySem.W.fnOf x x (defArgs st) (defBody st) (defScope st) .none kV doc pm an cdv ct), osl⟩) (c : PySem.W.codeIn K cdv x = true) (k : PySem.W.keepIn K (.ref f) = true) : ∃ (f : Addr) (fd : FuncData), Def K mg x st f fd ps :=
  ⟨f, _, PySem.W.mg_of X G a, fun_mk l c k, (fun_mk l c k).binds hb⟩
theorem hb_kind_of_value : ∀ (kV doc pm : Value) (an : Option Addr) (cdv ct : Value) (us : List Value), us.length = (["value"] : List Str).length → bindArgs (PySem.W.fnOf "kind_of_value" "kind_of_value" (defArgs s_kind_of_value) (defBody s_kind_of_value) (defScope s_kind_of_value) .none kV doc pm an cdv ct) ⟨us, []⟩ = pure (((["value"] : List Str)).zip us) := fun _ _ _ _ _ _ us hl => match us, hl with | [_], _ => rfl
theorem hb_parts_of : ∀ (kV doc pm : Value) (an : Option Addr) (cdv ct : Value) (us : List Value), us.length = (["value"] : List Str).length → bindArgs (PySem.W.fnOf "parts_of" "parts_of" (defArgs s_parts_of) (defBody s_parts_of) (defScope s_parts_of) .none kV doc pm an cdv ct) ⟨us, []⟩ = pure (((["value"] : List Str)).zip us) := fun _ _ _ _ _ _ us hl => match us, hl with | [_], _ => rfl
theorem hb_same : ∀ (kV doc pm : Value) (an : Option Addr) (cdv ct : Value) (us : List Value), us.length = (["first", "second"] : List Str).length → bindArgs (PySem.W.fnOf "same" "same" (defArgs s_same) (defBody s_same) (defScope s_same) .none kV doc pm an cdv ct) ⟨us, []⟩ = pure (((["first", "second"] : List Str)).zip us) := fun _ _ _ _ _ _ us hl => match us, hl with | [_, _], _ => rfl
theorem hb_same_members : ∀ (kV doc pm : Value) (an : Option Addr) (cdv ct : Value) (us : List Value), us.length = (["first", "second"] : List Str).length → bindArgs (PySem.W.fnOf "same_members" "same_members" (defArgs s_same_members) (defBody s_same_members) (defScope s_same_members) .none kV doc pm an cdv ct) ⟨us, []⟩ = pure (((["first", "second"] : List Str)).zip us) := fun _ _ _ _ _ _ us hl => match us, hl with | [_, _], _ => rfl
theorem hb_same_fields : ∀ (kV doc pm : Value) (an : Option Addr) (cdv ct : Value) (us : List Value), us.length = (["first", "second"] : List Str).length → bindArgs (PySem.W.fnOf "same_fields" "same_fields" (defArgs s_same_fields) (defBody s_same_fields) (defScope s_same_fields) .none kV doc pm an cdv ct) ⟨us, []⟩ = pure (((["first", "second"] : List Str)).zip us) := fun _ _ _ _ _ _ us hl => match us, hl with | [_, _], _ => rfl
theorem hb_depth : ∀ (kV doc pm : Value) (an : Option Addr) (cdv ct : Value) (us : List Value), us.length = (["value"] : List Str).length → bindArgs (PySem.W.fnOf "depth" "depth" (defArgs s_depth) (defBody s_depth) (defScope s_depth) .none kV doc pm an cdv ct) ⟨us, []⟩ = pure (((["value"] : List Str)).zip us) := fun _ _ _ _ _ _ us hl => match us, hl with | [_], _ => rfl
theorem hb_size : ∀ (kV doc pm : Value) (an : Option Addr) (cdv ct : Value) (us : List Value), us.length = (["value"] : List Str).length → bindArgs (PySem.W.fnOf "size" "size" (defArgs s_size) (defBody s_size) (defScope s_size) .none kV doc pm an cdv ct) ⟨us, []⟩ = pure (((["value"] : List Str)).zip us) := fun _ _ _ _ _ _ us hl => match us, hl with | [_], _ => rfl
theorem hb_text_of : ∀ (kV doc pm : Value) (an : Option Addr) (cdv ct : Value) (us : List Value), us.length = (["value"] : List Str).length → bindArgs (PySem.W.fnOf "text_of" "text_of" (defArgs s_text_of) (defBody s_text_of) (defScope s_text_of) .none kV doc pm an cdv ct) ⟨us, []⟩ = pure (((["value"] : List Str)).zip us) := fun _ _ _ _ _ _ us hl => match us, hl with | [_], _ => rfl
theorem hb_copied : ∀ (kV doc pm : Value) (an : Option Addr) (cdv ct : Value) (us : List Value), us.length = (["value"] : List Str).length → bindArgs (PySem.W.fnOf "copied" "copied" (defArgs s_copied) (defBody s_copied) (defScope s_copied) .none kV doc pm an cdv ct) ⟨us, []⟩ = pure (((["value"] : List Str)).zip us) := fun _ _ _ _ _ _ us hl => match us, hl with | [_], _ => rfl
theorem hb_bounded_number : ∀ (kV doc pm : Value) (an : Option Addr) (cdv ct : Value) (us : List Value), us.length = (["number"] : List Str).length → bindArgs (PySem.W.fnOf "bounded_number" "bounded_number" (defArgs s_bounded_number) (defBody s_bounded_number) (defScope s_bounded_number) .none kV doc pm an cdv ct) ⟨us, []⟩ = pure (((["number"] : List Str)).zip us) := fun _ _ _ _ _ _ us hl => match us, hl with | [_], _ => rfl
theorem hb_bounded_text : ∀ (kV doc pm : Value) (an : Option Addr) (cdv ct : Value) (us : List Value), us.length = (["text"] : List Str).length → bindArgs (PySem.W.fnOf "bounded_text" "bounded_text" (defArgs s_bounded_text) (defBody s_bounded_text) (defScope s_bounded_text) .none kV doc pm an cdv ct) ⟨us, []⟩ = pure (((["text"] : List Str)).zip us) := fun _ _ _ _ _ _ us hl => match us, hl with | [_], _ => rfl
theorem hb_bounded : ∀ (kV doc pm : Value) (an : Option Addr) (cdv ct : Value) (us : List Value), us.length = (["value"] : List Str).length → bindArgs (PySem.W.fnOf "bounded" "bounded" (defArgs s_bounded) (defBody s_bounded) (defScope s_bounded) .none kV doc pm an cdv ct) ⟨us, []⟩ = pure (((["value"] : List Str)).zip us) := fun _ _ _ _ _ _ us hl => match us, hl with | [_], _ => rfl
theorem hb_need_boolean : ∀ (kV doc pm : Value) (an : Option Addr) (cdv ct : Value) (us : List Value), us.length = (["value"] : List Str).length → bindArgs (PySem.W.fnOf "need_boolean" "need_boolean" (defArgs s_need_boolean) (defBody s_need_boolean) (defScope s_need_boolean) .none kV doc pm an cdv ct) ⟨us, []⟩ = pure (((["value"] : List Str)).zip us) := fun _ _ _ _ _ _ us hl => match us, hl with | [_], _ => rfl
theorem hb_need_number : ∀ (kV doc pm : Value) (an : Option Addr) (cdv ct : Value) (us : List Value), us.length = (["value"] : List Str).length → bindArgs (PySem.W.fnOf "need_number" "need_number" (defArgs s_need_number) (defBody s_need_number) (defScope s_need_number) .none kV doc pm an cdv ct) ⟨us, []⟩ = pure (((["value"] : List Str)).zip us) := fun _ _ _ _ _ _ us hl => match us, hl with | [_], _ => rfl
theorem hb_need_text : ∀ (kV doc pm : Value) (an : Option Addr) (cdv ct : Value) (us : List Value), us.length = (["value"] : List Str).length → bindArgs (PySem.W.fnOf "need_text" "need_text" (defArgs s_need_text) (defBody s_need_text) (defScope s_need_text) .none kV doc pm an cdv ct) ⟨us, []⟩ = pure (((["value"] : List Str)).zip us) := fun _ _ _ _ _ _ us hl => match us, hl with | [_], _ => rfl
theorem hb_need_list : ∀ (kV doc pm : Value) (an : Option Addr) (cdv ct : Value) (us : List Value), us.length = (["value"] : List Str).length → bindArgs (PySem.W.fnOf "need_list" "need_list" (defArgs s_need_list) (defBody s_need_list) (defScope s_need_list) .none kV doc pm an cdv ct) ⟨us, []⟩ = pure (((["value"] : List Str)).zip us) := fun _ _ _ _ _ _ us hl => match us, hl with | [_], _ => rfl
theorem hb_need_record : ∀ (kV doc pm : Value) (an : Option Addr) (cdv ct : Value) (us : List Value), us.length = (["value"] : List Str).length → bindArgs (PySem.W.fnOf "need_record" "need_record" (defArgs s_need_record) (defBody s_need_record) (defScope s_need_record) .none kV doc pm an cdv ct) ⟨us, []⟩ = pure (((["value"] : List Str)).zip us) := fun _ _ _ _ _ _ us hl => match us, hl with | [_], _ => rfl
theorem hb_need_row : ∀ (kV doc pm : Value) (an : Option Addr) (cdv ct : Value) (us : List Value), us.length = (["value"] : List Str).length → bindArgs (PySem.W.fnOf "need_row" "need_row" (defArgs s_need_row) (defBody s_need_row) (defScope s_need_row) .none kV doc pm an cdv ct) ⟨us, []⟩ = pure (((["value"] : List Str)).zip us) := fun _ _ _ _ _ _ us hl => match us, hl with | [_], _ => rfl
theorem hb_field_of : ∀ (kV doc pm : Value) (an : Option Addr) (cdv ct : Value) (us : List Value), us.length = (["value", "name"] : List Str).length → bindArgs (PySem.W.fnOf "field_of" "field_of" (defArgs s_field_of) (defBody s_field_of) (defScope s_field_of) .none kV doc pm an cdv ct) ⟨us, []⟩ = pure (((["value", "name"] : List Str)).zip us) := fun _ _ _ _ _ _ us hl => match us, hl with | [_, _], _ => rfl
theorem hb_has_place : ∀ (kV doc pm : Value) (an : Option Addr) (cdv ct : Value) (us : List Value), us.length = (["value", "place"] : List Str).length → bindArgs (PySem.W.fnOf "has_place" "has_place" (defArgs s_has_place) (defBody s_has_place) (defScope s_has_place) .none kV doc pm an cdv ct) ⟨us, []⟩ = pure (((["value", "place"] : List Str)).zip us) := fun _ _ _ _ _ _ us hl => match us, hl with | [_, _], _ => rfl
theorem hb_at_place : ∀ (kV doc pm : Value) (an : Option Addr) (cdv ct : Value) (us : List Value), us.length = (["value", "place"] : List Str).length → bindArgs (PySem.W.fnOf "at_place" "at_place" (defArgs s_at_place) (defBody s_at_place) (defScope s_at_place) .none kV doc pm an cdv ct) ⟨us, []⟩ = pure (((["value", "place"] : List Str)).zip us) := fun _ _ _ _ _ _ us hl => match us, hl with | [_, _], _ => rfl
theorem hb_length_of : ∀ (kV doc pm : Value) (an : Option Addr) (cdv ct : Value) (us : List Value), us.length = (["arguments"] : List Str).length → bindArgs (PySem.W.fnOf "length_of" "length_of" (defArgs s_length_of) (defBody s_length_of) (defScope s_length_of) .none kV doc pm an cdv ct) ⟨us, []⟩ = pure (((["arguments"] : List Str)).zip us) := fun _ _ _ _ _ _ us hl => match us, hl with | [_], _ => rfl
theorem hb_text_from : ∀ (kV doc pm : Value) (an : Option Addr) (cdv ct : Value) (us : List Value), us.length = (["arguments"] : List Str).length → bindArgs (PySem.W.fnOf "text_from" "text_from" (defArgs s_text_from) (defBody s_text_from) (defScope s_text_from) .none kV doc pm an cdv ct) ⟨us, []⟩ = pure (((["arguments"] : List Str)).zip us) := fun _ _ _ _ _ _ us hl => match us, hl with | [_], _ => rfl
theorem hb_number_from : ∀ (kV doc pm : Value) (an : Option Addr) (cdv ct : Value) (us : List Value), us.length = (["arguments"] : List Str).length → bindArgs (PySem.W.fnOf "number_from" "number_from" (defArgs s_number_from) (defBody s_number_from) (defScope s_number_from) .none kV doc pm an cdv ct) ⟨us, []⟩ = pure (((["arguments"] : List Str)).zip us) := fun _ _ _ _ _ _ us hl => match us, hl with | [_], _ => rfl
theorem hb_slice_of : ∀ (kV doc pm : Value) (an : Option Addr) (cdv ct : Value) (us : List Value), us.length = (["arguments"] : List Str).length → bindArgs (PySem.W.fnOf "slice_of" "slice_of" (defArgs s_slice_of) (defBody s_slice_of) (defScope s_slice_of) .none kV doc pm an cdv ct) ⟨us, []⟩ = pure (((["arguments"] : List Str)).zip us) := fun _ _ _ _ _ _ us hl => match us, hl with | [_], _ => rfl
theorem hb_find_in : ∀ (kV doc pm : Value) (an : Option Addr) (cdv ct : Value) (us : List Value), us.length = (["arguments"] : List Str).length → bindArgs (PySem.W.fnOf "find_in" "find_in" (defArgs s_find_in) (defBody s_find_in) (defScope s_find_in) .none kV doc pm an cdv ct) ⟨us, []⟩ = pure (((["arguments"] : List Str)).zip us) := fun _ _ _ _ _ _ us hl => match us, hl with | [_], _ => rfl
theorem hb_get_from : ∀ (kV doc pm : Value) (an : Option Addr) (cdv ct : Value) (us : List Value), us.length = (["arguments"] : List Str).length → bindArgs (PySem.W.fnOf "get_from" "get_from" (defArgs s_get_from) (defBody s_get_from) (defScope s_get_from) .none kV doc pm an cdv ct) ⟨us, []⟩ = pure (((["arguments"] : List Str)).zip us) := fun _ _ _ _ _ _ us hl => match us, hl with | [_], _ => rfl
theorem hb_join_all : ∀ (kV doc pm : Value) (an : Option Addr) (cdv ct : Value) (us : List Value), us.length = (["arguments"] : List Str).length → bindArgs (PySem.W.fnOf "join_all" "join_all" (defArgs s_join_all) (defBody s_join_all) (defScope s_join_all) .none kV doc pm an cdv ct) ⟨us, []⟩ = pure (((["arguments"] : List Str)).zip us) := fun _ _ _ _ _ _ us hl => match us, hl with | [_], _ => rfl
theorem hb_split_text : ∀ (kV doc pm : Value) (an : Option Addr) (cdv ct : Value) (us : List Value), us.length = (["arguments"] : List Str).length → bindArgs (PySem.W.fnOf "split_text" "split_text" (defArgs s_split_text) (defBody s_split_text) (defScope s_split_text) .none kV doc pm an cdv ct) ⟨us, []⟩ = pure (((["arguments"] : List Str)).zip us) := fun _ _ _ _ _ _ us hl => match us, hl with | [_], _ => rfl
theorem hb_keys_of : ∀ (kV doc pm : Value) (an : Option Addr) (cdv ct : Value) (us : List Value), us.length = (["arguments"] : List Str).length → bindArgs (PySem.W.fnOf "keys_of" "keys_of" (defArgs s_keys_of) (defBody s_keys_of) (defScope s_keys_of) .none kV doc pm an cdv ct) ⟨us, []⟩ = pure (((["arguments"] : List Str)).zip us) := fun _ _ _ _ _ _ us hl => match us, hl with | [_], _ => rfl
theorem hb_sorted_list : ∀ (kV doc pm : Value) (an : Option Addr) (cdv ct : Value) (us : List Value), us.length = (["arguments"] : List Str).length → bindArgs (PySem.W.fnOf "sorted_list" "sorted_list" (defArgs s_sorted_list) (defBody s_sorted_list) (defScope s_sorted_list) .none kV doc pm an cdv ct) ⟨us, []⟩ = pure (((["arguments"] : List Str)).zip us) := fun _ _ _ _ _ _ us hl => match us, hl with | [_], _ => rfl
theorem hb_range_to : ∀ (kV doc pm : Value) (an : Option Addr) (cdv ct : Value) (us : List Value), us.length = (["arguments"] : List Str).length → bindArgs (PySem.W.fnOf "range_to" "range_to" (defArgs s_range_to) (defBody s_range_to) (defScope s_range_to) .none kV doc pm an cdv ct) ⟨us, []⟩ = pure (((["arguments"] : List Str)).zip us) := fun _ _ _ _ _ _ us hl => match us, hl with | [_], _ => rfl
theorem hb_quotient : ∀ (kV doc pm : Value) (an : Option Addr) (cdv ct : Value) (us : List Value), us.length = (["first", "second"] : List Str).length → bindArgs (PySem.W.fnOf "quotient" "quotient" (defArgs s_quotient) (defBody s_quotient) (defScope s_quotient) .none kV doc pm an cdv ct) ⟨us, []⟩ = pure (((["first", "second"] : List Str)).zip us) := fun _ _ _ _ _ _ us hl => match us, hl with | [_, _], _ => rfl
theorem hb_rest_of : ∀ (kV doc pm : Value) (an : Option Addr) (cdv ct : Value) (us : List Value), us.length = (["arguments"] : List Str).length → bindArgs (PySem.W.fnOf "rest_of" "rest_of" (defArgs s_rest_of) (defBody s_rest_of) (defScope s_rest_of) .none kV doc pm an cdv ct) ⟨us, []⟩ = pure (((["arguments"] : List Str)).zip us) := fun _ _ _ _ _ _ us hl => match us, hl with | [_], _ => rfl
theorem hb_least_of : ∀ (kV doc pm : Value) (an : Option Addr) (cdv ct : Value) (us : List Value), us.length = (["arguments"] : List Str).length → bindArgs (PySem.W.fnOf "least_of" "least_of" (defArgs s_least_of) (defBody s_least_of) (defScope s_least_of) .none kV doc pm an cdv ct) ⟨us, []⟩ = pure (((["arguments"] : List Str)).zip us) := fun _ _ _ _ _ _ us hl => match us, hl with | [_], _ => rfl
theorem hb_greatest_of : ∀ (kV doc pm : Value) (an : Option Addr) (cdv ct : Value) (us : List Value), us.length = (["arguments"] : List Str).length → bindArgs (PySem.W.fnOf "greatest_of" "greatest_of" (defArgs s_greatest_of) (defBody s_greatest_of) (defScope s_greatest_of) .none kV doc pm an cdv ct) ⟨us, []⟩ = pure (((["arguments"] : List Str)).zip us) := fun _ _ _ _ _ _ us hl => match us, hl with | [_], _ => rfl
theorem hb_call_function : ∀ (kV doc pm : Value) (an : Option Addr) (cdv ct : Value) (us : List Value), us.length = (["name", "arguments"] : List Str).length → bindArgs (PySem.W.fnOf "call_function" "call_function" (defArgs s_call_function) (defBody s_call_function) (defScope s_call_function) .none kV doc pm an cdv ct) ⟨us, []⟩ = pure (((["name", "arguments"] : List Str)).zip us) := fun _ _ _ _ _ _ us hl => match us, hl with | [_, _], _ => rfl
theorem hb_add : ∀ (kV doc pm : Value) (an : Option Addr) (cdv ct : Value) (us : List Value), us.length = (["first", "second"] : List Str).length → bindArgs (PySem.W.fnOf "add" "add" (defArgs s_add) (defBody s_add) (defScope s_add) .none kV doc pm an cdv ct) ⟨us, []⟩ = pure (((["first", "second"] : List Str)).zip us) := fun _ _ _ _ _ _ us hl => match us, hl with | [_, _], _ => rfl
theorem hb_calculate : ∀ (kV doc pm : Value) (an : Option Addr) (cdv ct : Value) (us : List Value), us.length = (["sign", "first", "second"] : List Str).length → bindArgs (PySem.W.fnOf "calculate" "calculate" (defArgs s_calculate) (defBody s_calculate) (defScope s_calculate) .none kV doc pm an cdv ct) ⟨us, []⟩ = pure (((["sign", "first", "second"] : List Str)).zip us) := fun _ _ _ _ _ _ us hl => match us, hl with | [_, _, _], _ => rfl
theorem hb_compare : ∀ (kV doc pm : Value) (an : Option Addr) (cdv ct : Value) (us : List Value), us.length = (["sign", "first", "second"] : List Str).length → bindArgs (PySem.W.fnOf "compare" "compare" (defArgs s_compare) (defBody s_compare) (defScope s_compare) .none kV doc pm an cdv ct) ⟨us, []⟩ = pure (((["sign", "first", "second"] : List Str)).zip us) := fun _ _ _ _ _ _ us hl => match us, hl with | [_, _, _], _ => rfl
theorem hb_operate : ∀ (kV doc pm : Value) (an : Option Addr) (cdv ct : Value) (us : List Value), us.length = (["sign", "first", "second"] : List Str).length → bindArgs (PySem.W.fnOf "operate" "operate" (defArgs s_operate) (defBody s_operate) (defScope s_operate) .none kV doc pm an cdv ct) ⟨us, []⟩ = pure (((["sign", "first", "second"] : List Str)).zip us) := fun _ _ _ _ _ _ us hl => match us, hl with | [_, _, _], _ => rfl
theorem hb_evaluate_all : ∀ (kV doc pm : Value) (an : Option Addr) (cdv ct : Value) (us : List Value), us.length = (["expressions", "environment", "owner"] : List Str).length → bindArgs (PySem.W.fnOf "evaluate_all" "evaluate_all" (defArgs s_evaluate_all) (defBody s_evaluate_all) (defScope s_evaluate_all) .none kV doc pm an cdv ct) ⟨us, []⟩ = pure (((["expressions", "environment", "owner"] : List Str)).zip us) := fun _ _ _ _ _ _ us hl => match us, hl with | [_, _, _], _ => rfl
theorem hb_evaluate_binary : ∀ (kV doc pm : Value) (an : Option Addr) (cdv ct : Value) (us : List Value), us.length = (["expression", "environment", "owner"] : List Str).length → bindArgs (PySem.W.fnOf "evaluate_binary" "evaluate_binary" (defArgs s_evaluate_binary) (defBody s_evaluate_binary) (defScope s_evaluate_binary) .none kV doc pm an cdv ct) ⟨us, []⟩ = pure (((["expression", "environment", "owner"] : List Str)).zip us) := fun _ _ _ _ _ _ us hl => match us, hl with | [_, _, _], _ => rfl
theorem hb_evaluate_choice : ∀ (kV doc pm : Value) (an : Option Addr) (cdv ct : Value) (us : List Value), us.length = (["expression", "environment", "owner"] : List Str).length → bindArgs (PySem.W.fnOf "evaluate_choice" "evaluate_choice" (defArgs s_evaluate_choice) (defBody s_evaluate_choice) (defScope s_evaluate_choice) .none kV doc pm an cdv ct) ⟨us, []⟩ = pure (((["expression", "environment", "owner"] : List Str)).zip us) := fun _ _ _ _ _ _ us hl => match us, hl with | [_, _, _], _ => rfl
theorem hb_evaluate_gathering : ∀ (kV doc pm : Value) (an : Option Addr) (cdv ct : Value) (us : List Value), us.length = (["expression", "environment", "owner"] : List Str).length → bindArgs (PySem.W.fnOf "evaluate_gathering" "evaluate_gathering" (defArgs s_evaluate_gathering) (defBody s_evaluate_gathering) (defScope s_evaluate_gathering) .none kV doc pm an cdv ct) ⟨us, []⟩ = pure (((["expression", "environment", "owner"] : List Str)).zip us) := fun _ _ _ _ _ _ us hl => match us, hl with | [_, _, _], _ => rfl
theorem hb_evaluate_made : ∀ (kV doc pm : Value) (an : Option Addr) (cdv ct : Value) (us : List Value), us.length = (["expression", "environment", "owner"] : List Str).length → bindArgs (PySem.W.fnOf "evaluate_made" "evaluate_made" (defArgs s_evaluate_made) (defBody s_evaluate_made) (defScope s_evaluate_made) .none kV doc pm an cdv ct) ⟨us, []⟩ = pure (((["expression", "environment", "owner"] : List Str)).zip us) := fun _ _ _ _ _ _ us hl => match us, hl with | [_, _, _], _ => rfl
theorem hb_evaluate_part : ∀ (kV doc pm : Value) (an : Option Addr) (cdv ct : Value) (us : List Value), us.length = (["expression", "environment", "owner"] : List Str).length → bindArgs (PySem.W.fnOf "evaluate_part" "evaluate_part" (defArgs s_evaluate_part) (defBody s_evaluate_part) (defScope s_evaluate_part) .none kV doc pm an cdv ct) ⟨us, []⟩ = pure (((["expression", "environment", "owner"] : List Str)).zip us) := fun _ _ _ _ _ _ us hl => match us, hl with | [_, _, _], _ => rfl
theorem hb_evaluate : ∀ (kV doc pm : Value) (an : Option Addr) (cdv ct : Value) (us : List Value), us.length = (["expression", "environment", "owner"] : List Str).length → bindArgs (PySem.W.fnOf "evaluate" "evaluate" (defArgs s_evaluate) (defBody s_evaluate) (defScope s_evaluate) .none kV doc pm an cdv ct) ⟨us, []⟩ = pure (((["expression", "environment", "owner"] : List Str)).zip us) := fun _ _ _ _ _ _ us hl => match us, hl with | [_, _, _], _ => rfl
theorem hb_l_cell : ∀ (kV doc pm : Value) (an : Option Addr) (cdv ct : Value) (us : List Value), us.length = (["_law_script", "_law_k"] : List Str).length → bindArgs (PySem.W.fnOf "_law_cell" "_law_cell" (defArgs s_l_cell) (defBody s_l_cell) (defScope s_l_cell) .none kV doc pm an cdv ct) ⟨us, []⟩ = pure (((["_law_script", "_law_k"] : List Str)).zip us) := fun _ _ _ _ _ _ us hl => match us, hl with | [_, _], _ => rfl
theorem hb_l_start : ∀ (kV doc pm : Value) (an : Option Addr) (cdv ct : Value) (us : List Value), us.length = (["_law_cell_here", "_law_k"] : List Str).length → bindArgs (PySem.W.fnOf "_law_start" "_law_start" (defArgs s_l_start) (defBody s_l_start) (defScope s_l_start) .none kV doc pm an cdv ct) ⟨us, []⟩ = pure (((["_law_cell_here", "_law_k"] : List Str)).zip us) := fun _ _ _ _ _ _ us hl => match us, hl with | [_, _], _ => rfl
theorem hb_l_digit : ∀ (kV doc pm : Value) (an : Option Addr) (cdv ct : Value) (us : List Value), us.length = (["_law_state", "_law_many_here"] : List Str).length → bindArgs (PySem.W.fnOf "_law_digit" "_law_digit" (defArgs s_l_digit) (defBody s_l_digit) (defScope s_l_digit) .none kV doc pm an cdv ct) ⟨us, []⟩ = pure (((["_law_state", "_law_many_here"] : List Str)).zip us) := fun _ _ _ _ _ _ us hl => match us, hl with | [_, _], _ => rfl
theorem hb_l_text : ∀ (kV doc pm : Value) (an : Option Addr) (cdv ct : Value) (us : List Value), us.length = (["_law_state"] : List Str).length → bindArgs (PySem.W.fnOf "_law_text" "_law_text" (defArgs s_l_text) (defBody s_l_text) (defScope s_l_text) .none kV doc pm an cdv ct) ⟨us, []⟩ = pure (((["_law_state"] : List Str)).zip us) := fun _ _ _ _ _ _ us hl => match us, hl with | [_], _ => rfl
theorem hb_l_number : ∀ (kV doc pm : Value) (an : Option Addr) (cdv ct : Value) (us : List Value), us.length = (["_law_state"] : List Str).length → bindArgs (PySem.W.fnOf "_law_number" "_law_number" (defArgs s_l_number) (defBody s_l_number) (defScope s_l_number) .none kV doc pm an cdv ct) ⟨us, []⟩ = pure (((["_law_state"] : List Str)).zip us) := fun _ _ _ _ _ _ us hl => match us, hl with | [_], _ => rfl
theorem hb_l_value : ∀ (kV doc pm : Value) (an : Option Addr) (cdv ct : Value) (us : List Value), us.length = (["_law_state", "_law_levels"] : List Str).length → bindArgs (PySem.W.fnOf "_law_value" "_law_value" (defArgs s_l_value) (defBody s_l_value) (defScope s_l_value) .none kV doc pm an cdv ct) ⟨us, []⟩ = pure (((["_law_state", "_law_levels"] : List Str)).zip us) := fun _ _ _ _ _ _ us hl => match us, hl with | [_, _], _ => rfl
theorem hb_l_kind : ∀ (kV doc pm : Value) (an : Option Addr) (cdv ct : Value) (us : List Value), us.length = (["_law_value_here"] : List Str).length → bindArgs (PySem.W.fnOf "_law_kind" "_law_kind" (defArgs s_l_kind) (defBody s_l_kind) (defScope s_l_kind) .none kV doc pm an cdv ct) ⟨us, []⟩ = pure (((["_law_value_here"] : List Str)).zip us) := fun _ _ _ _ _ _ us hl => match us, hl with | [_], _ => rfl
theorem hb_l_same : ∀ (kV doc pm : Value) (an : Option Addr) (cdv ct : Value) (us : List Value), us.length = (["_law_first", "_law_second"] : List Str).length → bindArgs (PySem.W.fnOf "_law_same" "_law_same" (defArgs s_l_same) (defBody s_l_same) (defScope s_l_same) .none kV doc pm an cdv ct) ⟨us, []⟩ = pure (((["_law_first", "_law_second"] : List Str)).zip us) := fun _ _ _ _ _ _ us hl => match us, hl with | [_, _], _ => rfl
theorem hb_l_parts : ∀ (kV doc pm : Value) (an : Option Addr) (cdv ct : Value) (us : List Value), us.length = (["_law_value_here"] : List Str).length → bindArgs (PySem.W.fnOf "_law_parts" "_law_parts" (defArgs s_l_parts) (defBody s_l_parts) (defScope s_l_parts) .none kV doc pm an cdv ct) ⟨us, []⟩ = pure (((["_law_value_here"] : List Str)).zip us) := fun _ _ _ _ _ _ us hl => match us, hl with | [_], _ => rfl
theorem hb_l_depth : ∀ (kV doc pm : Value) (an : Option Addr) (cdv ct : Value) (us : List Value), us.length = (["_law_value_here"] : List Str).length → bindArgs (PySem.W.fnOf "_law_depth" "_law_depth" (defArgs s_l_depth) (defBody s_l_depth) (defScope s_l_depth) .none kV doc pm an cdv ct) ⟨us, []⟩ = pure (((["_law_value_here"] : List Str)).zip us) := fun _ _ _ _ _ _ us hl => match us, hl with | [_], _ => rfl
theorem hb_l_size : ∀ (kV doc pm : Value) (an : Option Addr) (cdv ct : Value) (us : List Value), us.length = (["_law_value_here"] : List Str).length → bindArgs (PySem.W.fnOf "_law_size" "_law_size" (defArgs s_l_size) (defBody s_l_size) (defScope s_l_size) .none kV doc pm an cdv ct) ⟨us, []⟩ = pure (((["_law_value_here"] : List Str)).zip us) := fun _ _ _ _ _ _ us hl => match us, hl with | [_], _ => rfl
theorem hb_l_text_of : ∀ (kV doc pm : Value) (an : Option Addr) (cdv ct : Value) (us : List Value), us.length = (["_law_value_here"] : List Str).length → bindArgs (PySem.W.fnOf "_law_text_of" "_law_text_of" (defArgs s_l_text_of) (defBody s_l_text_of) (defScope s_l_text_of) .none kV doc pm an cdv ct) ⟨us, []⟩ = pure (((["_law_value_here"] : List Str)).zip us) := fun _ _ _ _ _ _ us hl => match us, hl with | [_], _ => rfl
theorem hb_l_made : ∀ (kV doc pm : Value) (an : Option Addr) (cdv ct : Value) (us : List Value), us.length = (["_law_value_here"] : List Str).length → bindArgs (PySem.W.fnOf "_law_made" "_law_made" (defArgs s_l_made) (defBody s_l_made) (defScope s_l_made) .none kV doc pm an cdv ct) ⟨us, []⟩ = pure (((["_law_value_here"] : List Str)).zip us) := fun _ _ _ _ _ _ us hl => match us, hl with | [_], _ => rfl
theorem hb_l_bounded : ∀ (kV doc pm : Value) (an : Option Addr) (cdv ct : Value) (us : List Value), us.length = (["_law_number_here"] : List Str).length → bindArgs (PySem.W.fnOf "_law_bounded" "_law_bounded" (defArgs s_l_bounded) (defBody s_l_bounded) (defScope s_l_bounded) .none kV doc pm an cdv ct) ⟨us, []⟩ = pure (((["_law_number_here"] : List Str)).zip us) := fun _ _ _ _ _ _ us hl => match us, hl with | [_], _ => rfl
theorem hb_l_joined : ∀ (kV doc pm : Value) (an : Option Addr) (cdv ct : Value) (us : List Value), us.length = (["_law_text_here"] : List Str).length → bindArgs (PySem.W.fnOf "_law_joined" "_law_joined" (defArgs s_l_joined) (defBody s_l_joined) (defScope s_l_joined) .none kV doc pm an cdv ct) ⟨us, []⟩ = pure (((["_law_text_here"] : List Str)).zip us) := fun _ _ _ _ _ _ us hl => match us, hl with | [_], _ => rfl
theorem hb_l_quotient : ∀ (kV doc pm : Value) (an : Option Addr) (cdv ct : Value) (us : List Value), us.length = (["_law_first", "_law_second"] : List Str).length → bindArgs (PySem.W.fnOf "_law_quotient" "_law_quotient" (defArgs s_l_quotient) (defBody s_l_quotient) (defScope s_l_quotient) .none kV doc pm an cdv ct) ⟨us, []⟩ = pure (((["_law_first", "_law_second"] : List Str)).zip us) := fun _ _ _ _ _ _ us hl => match us, hl with | [_, _], _ => rfl
theorem hb_l_sum : ∀ (kV doc pm : Value) (an : Option Addr) (cdv ct : Value) (us : List Value), us.length = (["_law_first", "_law_second"] : List Str).length → bindArgs (PySem.W.fnOf "_law_sum" "_law_sum" (defArgs s_l_sum) (defBody s_l_sum) (defScope s_l_sum) .none kV doc pm an cdv ct) ⟨us, []⟩ = pure (((["_law_first", "_law_second"] : List Str)).zip us) := fun _ _ _ _ _ _ us hl => match us, hl with | [_, _], _ => rfl
theorem hb_l_operate : ∀ (kV doc pm : Value) (an : Option Addr) (cdv ct : Value) (us : List Value), us.length = (["_law_sign", "_law_first", "_law_second"] : List Str).length → bindArgs (PySem.W.fnOf "_law_operate" "_law_operate" (defArgs s_l_operate) (defBody s_l_operate) (defScope s_l_operate) .none kV doc pm an cdv ct) ⟨us, []⟩ = pure (((["_law_sign", "_law_first", "_law_second"] : List Str)).zip us) := fun _ _ _ _ _ _ us hl => match us, hl with | [_, _, _], _ => rfl
theorem hb_l_at : ∀ (kV doc pm : Value) (an : Option Addr) (cdv ct : Value) (us : List Value), us.length = (["_law_value_here", "_law_place"] : List Str).length → bindArgs (PySem.W.fnOf "_law_at" "_law_at" (defArgs s_l_at) (defBody s_l_at) (defScope s_l_at) .none kV doc pm an cdv ct) ⟨us, []⟩ = pure (((["_law_value_here", "_law_place"] : List Str)).zip us) := fun _ _ _ _ _ _ us hl => match us, hl with | [_, _], _ => rfl
theorem hb_l_field : ∀ (kV doc pm : Value) (an : Option Addr) (cdv ct : Value) (us : List Value), us.length = (["_law_value_here", "_law_name"] : List Str).length → bindArgs (PySem.W.fnOf "_law_field" "_law_field" (defArgs s_l_field) (defBody s_l_field) (defScope s_l_field) .none kV doc pm an cdv ct) ⟨us, []⟩ = pure (((["_law_value_here", "_law_name"] : List Str)).zip us) := fun _ _ _ _ _ _ us hl => match us, hl with | [_, _], _ => rfl
theorem hb_l_call : ∀ (kV doc pm : Value) (an : Option Addr) (cdv ct : Value) (us : List Value), us.length = (["_law_name", "_law_arguments"] : List Str).length → bindArgs (PySem.W.fnOf "_law_call" "_law_call" (defArgs s_l_call) (defBody s_l_call) (defScope s_l_call) .none kV doc pm an cdv ct) ⟨us, []⟩ = pure (((["_law_name", "_law_arguments"] : List Str)).zip us) := fun _ _ _ _ _ _ us hl => match us, hl with | [_, _], _ => rfl
theorem hb_l_evaluated : ∀ (kV doc pm : Value) (an : Option Addr) (cdv ct : Value) (us : List Value), us.length = (["_law_expression_here", "_law_environment_here", "_law_owner"] : List Str).length → bindArgs (PySem.W.fnOf "_law_evaluated" "_law_evaluated" (defArgs s_l_evaluated) (defBody s_l_evaluated) (defScope s_l_evaluated) .none kV doc pm an cdv ct) ⟨us, []⟩ = pure (((["_law_expression_here", "_law_environment_here", "_law_owner"] : List Str)).zip us) := fun _ _ _ _ _ _ us hl => match us, hl with | [_, _, _], _ => rfl
theorem hb_l_right : ∀ (kV doc pm : Value) (an : Option Addr) (cdv ct : Value) (us : List Value), us.length = (["_law_told", "_law_due"] : List Str).length → bindArgs (PySem.W.fnOf "_law_right" "_law_right" (defArgs s_l_right) (defBody s_l_right) (defScope s_l_right) .none kV doc pm an cdv ct) ⟨us, []⟩ = pure (((["_law_told", "_law_due"] : List Str)).zip us) := fun _ _ _ _ _ _ us hl => match us, hl with | [_, _], _ => rfl
theorem hb_l_literal : ∀ (kV doc pm : Value) (an : Option Addr) (cdv ct : Value) (us : List Value), us.length = (["_law_state", "_law_want"] : List Str).length → bindArgs (PySem.W.fnOf "_law_literal" "_law_literal" (defArgs s_l_literal) (defBody s_l_literal) (defScope s_l_literal) .none kV doc pm an cdv ct) ⟨us, []⟩ = pure (((["_law_state", "_law_want"] : List Str)).zip us) := fun _ _ _ _ _ _ us hl => match us, hl with | [_, _], _ => rfl
theorem hb_l_leaf : ∀ (kV doc pm : Value) (an : Option Addr) (cdv ct : Value) (us : List Value), us.length = (["_law_state", "_law_want", "_law_bound"] : List Str).length → bindArgs (PySem.W.fnOf "_law_leaf" "_law_leaf" (defArgs s_l_leaf) (defBody s_l_leaf) (defScope s_l_leaf) .none kV doc pm an cdv ct) ⟨us, []⟩ = pure (((["_law_state", "_law_want", "_law_bound"] : List Str)).zip us) := fun _ _ _ _ _ _ us hl => match us, hl with | [_, _, _], _ => rfl
theorem hb_l_function : ∀ (kV doc pm : Value) (an : Option Addr) (cdv ct : Value) (us : List Value), us.length = (["_law_state", "_law_levels", "_law_want", "_law_bound"] : List Str).length → bindArgs (PySem.W.fnOf "_law_function" "_law_function" (defArgs s_l_function) (defBody s_l_function) (defScope s_l_function) .none kV doc pm an cdv ct) ⟨us, []⟩ = pure (((["_law_state", "_law_levels", "_law_want", "_law_bound"] : List Str)).zip us) := fun _ _ _ _ _ _ us hl => match us, hl with | [_, _, _, _], _ => rfl
theorem hb_l_many : ∀ (kV doc pm : Value) (an : Option Addr) (cdv ct : Value) (us : List Value), us.length = (["_law_state", "_law_levels", "_law_bound"] : List Str).length → bindArgs (PySem.W.fnOf "_law_many" "_law_many" (defArgs s_l_many) (defBody s_l_many) (defScope s_l_many) .none kV doc pm an cdv ct) ⟨us, []⟩ = pure (((["_law_state", "_law_levels", "_law_bound"] : List Str)).zip us) := fun _ _ _ _ _ _ us hl => match us, hl with | [_, _, _], _ => rfl
theorem hb_l_made_of : ∀ (kV doc pm : Value) (an : Option Addr) (cdv ct : Value) (us : List Value), us.length = (["_law_state", "_law_levels", "_law_want", "_law_bound"] : List Str).length → bindArgs (PySem.W.fnOf "_law_made_of" "_law_made_of" (defArgs s_l_made_of) (defBody s_l_made_of) (defScope s_l_made_of) .none kV doc pm an cdv ct) ⟨us, []⟩ = pure (((["_law_state", "_law_levels", "_law_want", "_law_bound"] : List Str)).zip us) := fun _ _ _ _ _ _ us hl => match us, hl with | [_, _, _, _], _ => rfl
theorem hb_l_signed : ∀ (kV doc pm : Value) (an : Option Addr) (cdv ct : Value) (us : List Value), us.length = (["_law_state", "_law_levels", "_law_want", "_law_bound"] : List Str).length → bindArgs (PySem.W.fnOf "_law_signed" "_law_signed" (defArgs s_l_signed) (defBody s_l_signed) (defScope s_l_signed) .none kV doc pm an cdv ct) ⟨us, []⟩ = pure (((["_law_state", "_law_levels", "_law_want", "_law_bound"] : List Str)).zip us) := fun _ _ _ _ _ _ us hl => match us, hl with | [_, _, _, _], _ => rfl
theorem hb_l_expression : ∀ (kV doc pm : Value) (an : Option Addr) (cdv ct : Value) (us : List Value), us.length = (["_law_state", "_law_levels", "_law_want", "_law_bound"] : List Str).length → bindArgs (PySem.W.fnOf "_law_expression" "_law_expression" (defArgs s_l_expression) (defBody s_l_expression) (defScope s_l_expression) .none kV doc pm an cdv ct) ⟨us, []⟩ = pure (((["_law_state", "_law_levels", "_law_want", "_law_bound"] : List Str)).zip us) := fun _ _ _ _ _ _ us hl => match us, hl with | [_, _, _, _], _ => rfl
theorem hb_l_environment : ∀ (kV doc pm : Value) (an : Option Addr) (cdv ct : Value) (us : List Value), us.length = (["_law_state"] : List Str).length → bindArgs (PySem.W.fnOf "_law_environment" "_law_environment" (defArgs s_l_environment) (defBody s_l_environment) (defScope s_l_environment) .none kV doc pm an cdv ct) ⟨us, []⟩ = pure (((["_law_state"] : List Str)).zip us) := fun _ _ _ _ _ _ us hl => match us, hl with | [_], _ => rfl
theorem hb_l_all : ∀ (kV doc pm : Value) (an : Option Addr) (cdv ct : Value) (us : List Value), us.length = (["_law_parts_here", "_law_environment_here", "_law_owner"] : List Str).length → bindArgs (PySem.W.fnOf "_law_all" "_law_all" (defArgs s_l_all) (defBody s_l_all) (defScope s_l_all) .none kV doc pm an cdv ct) ⟨us, []⟩ = pure (((["_law_parts_here", "_law_environment_here", "_law_owner"] : List Str)).zip us) := fun _ _ _ _ _ _ us hl => match us, hl with | [_, _, _], _ => rfl
theorem hb_l_boolean : ∀ (kV doc pm : Value) (an : Option Addr) (cdv ct : Value) (us : List Value), us.length = (["_law_found"] : List Str).length → bindArgs (PySem.W.fnOf "_law_boolean" "_law_boolean" (defArgs s_l_boolean) (defBody s_l_boolean) (defScope s_l_boolean) .none kV doc pm an cdv ct) ⟨us, []⟩ = pure (((["_law_found"] : List Str)).zip us) := fun _ _ _ _ _ _ us hl => match us, hl with | [_], _ => rfl
theorem hb_l_gathered : ∀ (kV doc pm : Value) (an : Option Addr) (cdv ct : Value) (us : List Value), us.length = (["_law_expression_here", "_law_environment_here", "_law_owner"] : List Str).length → bindArgs (PySem.W.fnOf "_law_gathered" "_law_gathered" (defArgs s_l_gathered) (defBody s_l_gathered) (defScope s_l_gathered) .none kV doc pm an cdv ct) ⟨us, []⟩ = pure (((["_law_expression_here", "_law_environment_here", "_law_owner"] : List Str)).zip us) := fun _ _ _ _ _ _ us hl => match us, hl with | [_, _, _], _ => rfl
theorem hb_l_two : ∀ (kV doc pm : Value) (an : Option Addr) (cdv ct : Value) (us : List Value), us.length = (["_law_expression_here", "_law_environment_here", "_law_owner"] : List Str).length → bindArgs (PySem.W.fnOf "_law_two" "_law_two" (defArgs s_l_two) (defBody s_l_two) (defScope s_l_two) .none kV doc pm an cdv ct) ⟨us, []⟩ = pure (((["_law_expression_here", "_law_environment_here", "_law_owner"] : List Str)).zip us) := fun _ _ _ _ _ _ us hl => match us, hl with | [_, _, _], _ => rfl
theorem hb_l_one : ∀ (kV doc pm : Value) (an : Option Addr) (cdv ct : Value) (us : List Value), us.length = (["_law_expression_here", "_law_environment_here", "_law_owner"] : List Str).length → bindArgs (PySem.W.fnOf "_law_one" "_law_one" (defArgs s_l_one) (defBody s_l_one) (defScope s_l_one) .none kV doc pm an cdv ct) ⟨us, []⟩ = pure (((["_law_expression_here", "_law_environment_here", "_law_owner"] : List Str)).zip us) := fun _ _ _ _ _ _ us hl => match us, hl with | [_, _, _], _ => rfl
theorem hb_l_written : ∀ (kV doc pm : Value) (an : Option Addr) (cdv ct : Value) (us : List Value), us.length = (["_law_expression_here", "_law_environment_here", "_law_owner"] : List Str).length → bindArgs (PySem.W.fnOf "_law_written" "_law_written" (defArgs s_l_written) (defBody s_l_written) (defScope s_l_written) .none kV doc pm an cdv ct) ⟨us, []⟩ = pure (((["_law_expression_here", "_law_environment_here", "_law_owner"] : List Str)).zip us) := fun _ _ _ _ _ _ us hl => match us, hl with | [_, _, _], _ => rfl
theorem hb_l_eval : ∀ (kV doc pm : Value) (an : Option Addr) (cdv ct : Value) (us : List Value), us.length = (["_law_expression_here", "_law_environment_here", "_law_owner"] : List Str).length → bindArgs (PySem.W.fnOf "_law_eval" "_law_eval" (defArgs s_l_eval) (defBody s_l_eval) (defScope s_l_eval) .none kV doc pm an cdv ct) ⟨us, []⟩ = pure (((["_law_expression_here", "_law_environment_here", "_law_owner"] : List Str)).zip us) := fun _ _ _ _ _ _ us hl => match us, hl with | [_, _, _], _ => rfl
theorem hb_l_spoil : ∀ (kV doc pm : Value) (an : Option Addr) (cdv ct : Value) (us : List Value), us.length = (["_law_value_here"] : List Str).length → bindArgs (PySem.W.fnOf "_law_spoil" "_law_spoil" (defArgs s_l_spoil) (defBody s_l_spoil) (defScope s_l_spoil) .none kV doc pm an cdv ct) ⟨us, []⟩ = pure (((["_law_value_here"] : List Str)).zip us) := fun _ _ _ _ _ _ us hl => match us, hl with | [_], _ => rfl
end K19
/-! From the written top to what the law's function does. -/
namespace K19
open PySem PySem.Spec PyProof.Rows L2
open PySem.FltX (FltTxt iA iB iS)
open PySem.W (ksFn)
open PySem.HandSPX (refsVE)
theorem cst_mk {K : PySem.W.Frag} {h : Heap} {mg : Str → Option Value} (X : K.In h) (G : h.Ns mainGlobals mg) {x : Str} {i n : Int} {t : Tok} (a : PySem.W.nsIn K mainGlobals x = some (some (.int i t))) (e : i = n) : ∃ t, mg x = some (.int n t) :=
  ⟨t, by rw [PySem.W.mg_of X G a, e]⟩
/-- one name of FUNCTIONS -/
structure FnAt (K : PySem.W.Frag) (w : World) (mg : Str → Option Value) (d : Addr) (x y : Str) : Prop where
  at_ : ∃ f, mg y = some (.ref f) ∧ KDct K w d x (.ref f)
structure FnsAt (K : PySem.W.Frag) (w : World) (mg : Str → Option Value) (d : Addr) : Prop where
  g : mg "FUNCTIONS" = some (.ref d)
  length : FnAt K w mg d "length" "length_of"
  text : FnAt K w mg d "text" "text_from"
  get : FnAt K w mg d "get" "get_from"
  keys : FnAt K w mg d "keys" "keys_of"
  min : FnAt K w mg d "min" "least_of"
  max : FnAt K w mg d "max" "greatest_of"
theorem fn_mk {K : PySem.W.Frag} {h : Heap} {mg : Str → Option Value} {w : World} {d f : Addr} {es : Array DictEntry} {n : Nat} {x y : Str} (X : K.In h) (G : h.Ns mainGlobals mg) (l : K.lookup d = some ⟨.type "dict", none, .dict es n, #[]⟩) (kl : PySem.W.KeysLit w.params es.toList)
    (a : PySem.W.nsIn K mainGlobals y = some (some (.ref f))) (b : PySem.W.nsIn K d x = some (some (.ref f))) : FnAt K w mg d x y :=
  ⟨f, PySem.W.mg_of X G a, es, n, _, l, kl, b, rfl⟩
theorem flt_mk {P : Program} {K : PySem.W.Frag} {h : Heap} {mg : Str → Option Value} {C fI V N cda cc : Addr} {nm q : Str} {bs bm : List Value} {sn : List Str} {sub : List Value} {ab : Bool} {col : Option Bool} {dd od an cdd cld : Option Addr} {k0 k1 k2 k3 k5 : Option Value} {oc kV doc pm ct ccl cl : Value} {osl ccs csl : Array (Option Value)} {vs : Array Value} {file : Str} {tf : Tok}
    (X : K.In h) (G : h.Ns mainGlobals mg)
    (aC : PySem.W.nsIn K mainGlobals "Fault" = some (some (.ref C)))
    (aV : PySem.W.nsIn K mainGlobals "ViewError" = some (some (.ref V)))
    (xL : K.lookup C = some (excClassObj nm q C N bs bm true sn sub ab col dd k0 k1 k2 k3 k5 "ValueError.__new__"))
    (rb : refsVE bm = true)
    (al : PySem.W.alongIn K "__init__" (((Value.ref C :: bm).dropWhile (· != .ref C)).drop 1) = some (some (.builtin "ValueError.__init__")))
    (sa : PySem.W.findIn K (.ref C) "__setattr__" = some (some (.builtin "object.__setattr__")))
    (ga : PySem.W.findIn K (.ref C) "__getattribute__" = some (some (.builtin "BaseException.__getattribute__")))
    (gg : PySem.W.findIn K (.ref C) "__getattr__" = some none)
    (nN : PySem.W.findIn K (.ref C) "message" = some none)
    (a1 : PySem.W.findIn K (.ref C) "__init__" = some (some (.ref fI)))
    (t1 : PySem.W.typeIn K (.ref fI) = some (.type "function"))
    (kC : PySem.W.keepIn K (.ref C) = true)
    (eC : PySem.W.subIn K (.ref C) (.type "BaseException") = some true)
    (vC : PySem.W.subIn K (.ref C) (.type "ValueError") = some true)
    (tC : PySem.W.typeIn K (.ref C) = some (.type "type"))
    (hC : PySem.W.hasDictIn K C = true)
    (sf : PySem.W.mroIn K C (.ref C) = some true)
    (oq : PySem.W.nsIn K cStatics "thirdparty.any" = some none)
    (su : PySem.W.nsIn K mainGlobals "super" = some none)
    (tp : (P.main.scope.names.lookup ("super" : Str)).isSome = false)
    (l1 : K.lookup fI = some ⟨oc, od, .func (ksFn "__init__" "Fault.__init__" iA iB iS .none kV doc pm an (.ref cda) ct cc), osl⟩)
    (c1 : PySem.W.codeIn K (.ref cda) "Fault.__init__" = true)
    (l2 : K.lookup cda = some ⟨ccl, cdd, .fields vs, ccs⟩) (v2 : vs[2]? = some (.str file tf)) (pf : ((P.main.file : Str) == file) = true)
    (l3 : K.lookup cc = some ⟨cl, cld, .cell (some (.ref C)), csl⟩)
    (ha : PySem.W.findIn K (.ref C) "__class__" = some (some (.builtin "object.__class__")))
    (hn : PySem.W.specialIn K (.builtin "object.__class__") "__get__" = some (some (.builtin "getset_descriptor.__get__")))
    (ht : PySem.W.takesIn K (.builtin "object.__class__") = some true)
    (hm : PySem.W.mroIn K C (.type "object") = some true)
    (ki : PySem.W.kitOne K (.ref C) (.ref C) = some true)
    (ex : PySem.W.exmOne K (.ref C) (.ref V) = some true) : ∃ C fI V, FltTxt P K mg C fI ∧ FltIs K mg C V :=
  ⟨C, fI, V,
    { gC := PySem.W.mg_of X G aC, cls := ⟨nm, q, N, bs, bm, sn, sub, ab, col, dd, k0, k1, k2, k3, k5, xL, rb, al⟩, sa := sa, ga := ga, gg := gg, noN := nN, iC := a1, tC := t1, kC := kC, exC := eC, veC := vC, tyC := tC, hdC := hC, self := sf, opq := oq, sup := su, supM := PySem.W.mg_none_of X G su, top := tp,
      fn := ⟨oc, od, kV, doc, pm, an, cda, cc, ct, osl, l1, c1, ⟨ccl, cdd, vs, ccs, file, tf, l2, v2, pf⟩, ⟨cl, cld, csl, l3⟩⟩ },
    { gV := PySem.W.mg_of X G aV, ha := ha, hn := hn, htk := ht, hm := hm, kit := ki, exm := ex }⟩
theorem fns_mk {K : PySem.W.Frag} {h : Heap} {mg : Str → Option Value} {w : World} {d f_length f_text f_get f_keys f_min f_max : Addr} {es : Array DictEntry} {n : Nat} (X : K.In h) (G : h.Ns mainGlobals mg) (g : PySem.W.nsIn K mainGlobals "FUNCTIONS" = some (some (.ref d))) (l : K.lookup d = some ⟨.type "dict", none, .dict es n, #[]⟩) (kl : PySem.W.KeysLit w.params es.toList) (a_length : PySem.W.nsIn K mainGlobals "length_of" = some (some (.ref f_length))) (b_length : PySem.W.nsIn K d "length" = some (some (.ref f_length))) (a_text : PySem.W.nsIn K mainGlobals "text_from" = some (some (.ref f_text))) (b_text : PySem.W.nsIn K d "text" = some (some (.ref f_text))) (a_get : PySem.W.nsIn K mainGlobals "get_from" = some (some (.ref f_get))) (b_get : PySem.W.nsIn K d "get" = some (some (.ref f_get))) (a_keys : PySem.W.nsIn K mainGlobals "keys_of" = some (some (.ref f_keys))) (b_keys : PySem.W.nsIn K d "keys" = some (some (.ref f_keys))) (a_min : PySem.W.nsIn K mainGlobals "least_of" = some (some (.ref f_min))) (b_min : PySem.W.nsIn K d "min" = some (some (.ref f_min))) (a_max : PySem.W.nsIn K mainGlobals "greatest_of" = some (some (.ref f_max))) (b_max : PySem.W.nsIn K d "max" = some (some (.ref f_max))) : ∃ d, FnsAt K w mg d :=
  ⟨d, PySem.W.mg_of X G g, fn_mk X G l kl a_length b_length, fn_mk X G l kl a_text b_text, fn_mk X G l kl a_get b_get, fn_mk X G l kl a_keys b_keys, fn_mk X G l kl a_min b_min, fn_mk X G l kl a_max b_max⟩
structure DefsAll (K : PySem.W.Frag) (mg : Str → Option Value) : Prop where
  kind_of_value : ∃ f fd, Def K mg "kind_of_value" s_kind_of_value f fd ["value"]
  parts_of : ∃ f fd, Def K mg "parts_of" s_parts_of f fd ["value"]
  same : ∃ f fd, Def K mg "same" s_same f fd ["first", "second"]
  same_members : ∃ f fd, Def K mg "same_members" s_same_members f fd ["first", "second"]
  same_fields : ∃ f fd, Def K mg "same_fields" s_same_fields f fd ["first", "second"]
  depth : ∃ f fd, Def K mg "depth" s_depth f fd ["value"]
  size : ∃ f fd, Def K mg "size" s_size f fd ["value"]
  text_of : ∃ f fd, Def K mg "text_of" s_text_of f fd ["value"]
  copied : ∃ f fd, Def K mg "copied" s_copied f fd ["value"]
  bounded_number : ∃ f fd, Def K mg "bounded_number" s_bounded_number f fd ["number"]
  bounded_text : ∃ f fd, Def K mg "bounded_text" s_bounded_text f fd ["text"]
  bounded : ∃ f fd, Def K mg "bounded" s_bounded f fd ["value"]
  need_boolean : ∃ f fd, Def K mg "need_boolean" s_need_boolean f fd ["value"]
  need_number : ∃ f fd, Def K mg "need_number" s_need_number f fd ["value"]
  need_text : ∃ f fd, Def K mg "need_text" s_need_text f fd ["value"]
  need_list : ∃ f fd, Def K mg "need_list" s_need_list f fd ["value"]
  need_record : ∃ f fd, Def K mg "need_record" s_need_record f fd ["value"]
  need_row : ∃ f fd, Def K mg "need_row" s_need_row f fd ["value"]
  field_of : ∃ f fd, Def K mg "field_of" s_field_of f fd ["value", "name"]
  has_place : ∃ f fd, Def K mg "has_place" s_has_place f fd ["value", "place"]
  at_place : ∃ f fd, Def K mg "at_place" s_at_place f fd ["value", "place"]
  length_of : ∃ f fd, Def K mg "length_of" s_length_of f fd ["arguments"]
  text_from : ∃ f fd, Def K mg "text_from" s_text_from f fd ["arguments"]
  number_from : ∃ f fd, Def K mg "number_from" s_number_from f fd ["arguments"]
  slice_of : ∃ f fd, Def K mg "slice_of" s_slice_of f fd ["arguments"]
  find_in : ∃ f fd, Def K mg "find_in" s_find_in f fd ["arguments"]
  get_from : ∃ f fd, Def K mg "get_from" s_get_from f fd ["arguments"]
  join_all : ∃ f fd, Def K mg "join_all" s_join_all f fd ["arguments"]
  split_text : ∃ f fd, Def K mg "split_text" s_split_text f fd ["arguments"]
  keys_of : ∃ f fd, Def K mg "keys_of" s_keys_of f fd ["arguments"]
  sorted_list : ∃ f fd, Def K mg "sorted_list" s_sorted_list f fd ["arguments"]
  range_to : ∃ f fd, Def K mg "range_to" s_range_to f fd ["arguments"]
  quotient : ∃ f fd, Def K mg "quotient" s_quotient f fd ["first", "second"]
  rest_of : ∃ f fd, Def K mg "rest_of" s_rest_of f fd ["arguments"]
  least_of : ∃ f fd, Def K mg "least_of" s_least_of f fd ["arguments"]
  greatest_of : ∃ f fd, Def K mg "greatest_of" s_greatest_of f fd ["arguments"]
  call_function : ∃ f fd, Def K mg "call_function" s_call_function f fd ["name", "arguments"]
  add : ∃ f fd, Def K mg "add" s_add f fd ["first", "second"]
  calculate : ∃ f fd, Def K mg "calculate" s_calculate f fd ["sign", "first", "second"]
  compare : ∃ f fd, Def K mg "compare" s_compare f fd ["sign", "first", "second"]
  operate : ∃ f fd, Def K mg "operate" s_operate f fd ["sign", "first", "second"]
  evaluate_all : ∃ f fd, Def K mg "evaluate_all" s_evaluate_all f fd ["expressions", "environment", "owner"]
  evaluate_binary : ∃ f fd, Def K mg "evaluate_binary" s_evaluate_binary f fd ["expression", "environment", "owner"]
  evaluate_choice : ∃ f fd, Def K mg "evaluate_choice" s_evaluate_choice f fd ["expression", "environment", "owner"]
  evaluate_gathering : ∃ f fd, Def K mg "evaluate_gathering" s_evaluate_gathering f fd ["expression", "environment", "owner"]
  evaluate_made : ∃ f fd, Def K mg "evaluate_made" s_evaluate_made f fd ["expression", "environment", "owner"]
  evaluate_part : ∃ f fd, Def K mg "evaluate_part" s_evaluate_part f fd ["expression", "environment", "owner"]
  evaluate : ∃ f fd, Def K mg "evaluate" s_evaluate f fd ["expression", "environment", "owner"]
  l_cell : ∃ f fd, Def K mg "_law_cell" s_l_cell f fd ["_law_script", "_law_k"]
  l_start : ∃ f fd, Def K mg "_law_start" s_l_start f fd ["_law_cell_here", "_law_k"]
  l_digit : ∃ f fd, Def K mg "_law_digit" s_l_digit f fd ["_law_state", "_law_many_here"]
  l_text : ∃ f fd, Def K mg "_law_text" s_l_text f fd ["_law_state"]
  l_number : ∃ f fd, Def K mg "_law_number" s_l_number f fd ["_law_state"]
  l_value : ∃ f fd, Def K mg "_law_value" s_l_value f fd ["_law_state", "_law_levels"]
  l_kind : ∃ f fd, Def K mg "_law_kind" s_l_kind f fd ["_law_value_here"]
  l_same : ∃ f fd, Def K mg "_law_same" s_l_same f fd ["_law_first", "_law_second"]
  l_parts : ∃ f fd, Def K mg "_law_parts" s_l_parts f fd ["_law_value_here"]
  l_depth : ∃ f fd, Def K mg "_law_depth" s_l_depth f fd ["_law_value_here"]
  l_size : ∃ f fd, Def K mg "_law_size" s_l_size f fd ["_law_value_here"]
  l_text_of : ∃ f fd, Def K mg "_law_text_of" s_l_text_of f fd ["_law_value_here"]
  l_made : ∃ f fd, Def K mg "_law_made" s_l_made f fd ["_law_value_here"]
  l_bounded : ∃ f fd, Def K mg "_law_bounded" s_l_bounded f fd ["_law_number_here"]
  l_joined : ∃ f fd, Def K mg "_law_joined" s_l_joined f fd ["_law_text_here"]
  l_quotient : ∃ f fd, Def K mg "_law_quotient" s_l_quotient f fd ["_law_first", "_law_second"]
  l_sum : ∃ f fd, Def K mg "_law_sum" s_l_sum f fd ["_law_first", "_law_second"]
  l_operate : ∃ f fd, Def K mg "_law_operate" s_l_operate f fd ["_law_sign", "_law_first", "_law_second"]
  l_at : ∃ f fd, Def K mg "_law_at" s_l_at f fd ["_law_value_here", "_law_place"]
  l_field : ∃ f fd, Def K mg "_law_field" s_l_field f fd ["_law_value_here", "_law_name"]
  l_call : ∃ f fd, Def K mg "_law_call" s_l_call f fd ["_law_name", "_law_arguments"]
  l_evaluated : ∃ f fd, Def K mg "_law_evaluated" s_l_evaluated f fd ["_law_expression_here", "_law_environment_here", "_law_owner"]
  l_right : ∃ f fd, Def K mg "_law_right" s_l_right f fd ["_law_told", "_law_due"]
  l_literal : ∃ f fd, Def K mg "_law_literal" s_l_literal f fd ["_law_state", "_law_want"]
  l_leaf : ∃ f fd, Def K mg "_law_leaf" s_l_leaf f fd ["_law_state", "_law_want", "_law_bound"]
  l_function : ∃ f fd, Def K mg "_law_function" s_l_function f fd ["_law_state", "_law_levels", "_law_want", "_law_bound"]
  l_many : ∃ f fd, Def K mg "_law_many" s_l_many f fd ["_law_state", "_law_levels", "_law_bound"]
  l_made_of : ∃ f fd, Def K mg "_law_made_of" s_l_made_of f fd ["_law_state", "_law_levels", "_law_want", "_law_bound"]
  l_signed : ∃ f fd, Def K mg "_law_signed" s_l_signed f fd ["_law_state", "_law_levels", "_law_want", "_law_bound"]
  l_expression : ∃ f fd, Def K mg "_law_expression" s_l_expression f fd ["_law_state", "_law_levels", "_law_want", "_law_bound"]
  l_environment : ∃ f fd, Def K mg "_law_environment" s_l_environment f fd ["_law_state"]
  l_all : ∃ f fd, Def K mg "_law_all" s_l_all f fd ["_law_parts_here", "_law_environment_here", "_law_owner"]
  l_boolean : ∃ f fd, Def K mg "_law_boolean" s_l_boolean f fd ["_law_found"]
  l_gathered : ∃ f fd, Def K mg "_law_gathered" s_l_gathered f fd ["_law_expression_here", "_law_environment_here", "_law_owner"]
  l_two : ∃ f fd, Def K mg "_law_two" s_l_two f fd ["_law_expression_here", "_law_environment_here", "_law_owner"]
  l_one : ∃ f fd, Def K mg "_law_one" s_l_one f fd ["_law_expression_here", "_law_environment_here", "_law_owner"]
  l_written : ∃ f fd, Def K mg "_law_written" s_l_written f fd ["_law_expression_here", "_law_environment_here", "_law_owner"]
  l_eval : ∃ f fd, Def K mg "_law_eval" s_l_eval f fd ["_law_expression_here", "_law_environment_here", "_law_owner"]
  l_spoil : ∃ f fd, Def K mg "_law_spoil" s_l_spoil f fd ["_law_value_here"]
structure BltAll (mg : Str → Option Value) : Prop where
  b_len : mg "len" = none
  b_isinstance : mg "isinstance" = none
  b_bool : mg "bool" = none
  b_int : mg "int" = none
  b_str : mg "str" = none
  b_list : mg "list" = none
  b_dict : mg "dict" = none
  b_tuple : mg "tuple" = none
  b_abs : mg "abs" = none
  b_max : mg "max" = none
  b_min : mg "min" = none
  b_sum : mg "sum" = none
  b_sorted : mg "sorted" = none
  b_range : mg "range" = none
  b_repr : mg "repr" = none
structure CstAll (mg : Str → Option Value) : Prop where
  c_MOST_NUMBER : ∃ t, mg "MOST_NUMBER" = some (.int 1000000000000000000000000000000 t)
  c_MOST_CHARACTERS : ∃ t, mg "MOST_CHARACTERS" = some (.int 2000 t)
  c_MOST_MEMBERS : ∃ t, mg "MOST_MEMBERS" = some (.int 200 t)
  c_MOST_DEPTH : ∃ t, mg "MOST_DEPTH" = some (.int 20 t)
  c_MOST_SIZE : ∃ t, mg "MOST_SIZE" = some (.int 2000 t)
theorem hb_l_law : ∀ (kV doc pm : Value) (an : Option Addr) (cdv ct : Value) (us : List Value), us.length = (["_law_script"] : List Str).length → bindArgs (PySem.W.fnOf "law" "law" (defArgs s_l_law) (defBody s_l_law) (defScope s_l_law) .none kV doc pm an cdv ct) ⟨us, []⟩ = pure (((["_law_script"] : List Str)).zip us) := fun _ _ _ _ _ _ us hl => match us, hl with | [_], _ => rfl
theorem law_mk {K : PySem.W.Frag} {h : Heap} {mg : Str → Option Value} (X : K.In h) (G : h.Ns mainGlobals mg) {f : Addr} {oc : Value} {od an : Option Addr} {osl : Array (Option Value)} {kV doc pm cdv ct : Value}
    (a : PySem.W.nsIn K mainGlobals "law" = some (some (.ref f))) (l : K.lookup f = some ⟨oc, od, .func (PySem.W.fnOf "law" "law" (defArgs s_l_law) (defBody s_l_law) (defScope s_l_law) .none kV doc pm an cdv ct), osl⟩) (c : PySem.W.codeIn K cdv "law" = true) (k : PySem.W.keepIn K (.ref f) = true) :
    ∃ (f : Addr) (fd : FuncData), Def K mg "law" s_l_law f fd ["_law_script"] ∧ ∀ (s : Shared) (u : Value), BindsTo s fd ⟨[u], []⟩ [("_law_script", u)] :=
  ⟨f, _, ⟨PySem.W.mg_of X G a, fun_mk l c k, (fun_mk l c k).binds hb_l_law⟩, fun s u => .of_eq rfl⟩
theorem ref_eq {mg : Str → Option Value} {x : Str} {a b : Addr} (e : mg x = some (.ref a)) (e2 : mg x = some (.ref b)) : a = b := by
  rw [e] at e2; cases e2; rfl
theorem fin {P : Program} {w : World} {K : PySem.W.Frag} {mg : Str → Option Value} {h : Heap} {fa : Addr} {B : Nat} (hmg : mg "law" = some (.ref fa)) (D : DefsAll K mg) (L : ∃ f fd, Def K mg "law" s_l_law f fd ["_law_script"] ∧ ∀ (s : Shared) (u : Value), BindsTo s fd ⟨[u], []⟩ [("_law_script", u)]) (Bl : BltAll mg) (Cs : CstAll mg) (Fs : ∃ d, FnsAt K w mg d)
    (Fl : ∃ C fI V, FltTxt P K mg C fI ∧ FltIs K mg C V) :
    ∃ fd : FuncData, (∀ (s : Shared) (u : Value), BindsTo s fd ⟨[u], []⟩ [("_law_script", u)]) ∧ ∀ base : Heap, K.In base → base.Ns mainGlobals mg → (∃ o, base.get? sysModules = some o) → RunL P w K mg base fa fd (spLaw K B) := by
  obtain ⟨x_kind_of_value, y_kind_of_value, z_kind_of_value⟩ := D.kind_of_value
  obtain ⟨x_parts_of, y_parts_of, z_parts_of⟩ := D.parts_of
  obtain ⟨x_same, y_same, z_same⟩ := D.same
  obtain ⟨x_same_members, y_same_members, z_same_members⟩ := D.same_members
  obtain ⟨x_same_fields, y_same_fields, z_same_fields⟩ := D.same_fields
  obtain ⟨x_depth, y_depth, z_depth⟩ := D.depth
  obtain ⟨x_size, y_size, z_size⟩ := D.size
  obtain ⟨x_text_of, y_text_of, z_text_of⟩ := D.text_of
  obtain ⟨x_copied, y_copied, z_copied⟩ := D.copied
  obtain ⟨x_bounded_number, y_bounded_number, z_bounded_number⟩ := D.bounded_number
  obtain ⟨x_bounded_text, y_bounded_text, z_bounded_text⟩ := D.bounded_text
  obtain ⟨x_bounded, y_bounded, z_bounded⟩ := D.bounded
  obtain ⟨x_need_boolean, y_need_boolean, z_need_boolean⟩ := D.need_boolean
  obtain ⟨x_need_number, y_need_number, z_need_number⟩ := D.need_number
  obtain ⟨x_need_text, y_need_text, z_need_text⟩ := D.need_text
  obtain ⟨x_need_list, y_need_list, z_need_list⟩ := D.need_list
  obtain ⟨x_need_record, y_need_record, z_need_record⟩ := D.need_record
  obtain ⟨x_need_row, y_need_row, z_need_row⟩ := D.need_row
  obtain ⟨x_field_of, y_field_of, z_field_of⟩ := D.field_of
  obtain ⟨x_has_place, y_has_place, z_has_place⟩ := D.has_place
  obtain ⟨x_at_place, y_at_place, z_at_place⟩ := D.at_place
  obtain ⟨x_length_of, y_length_of, z_length_of⟩ := D.length_of
  obtain ⟨x_text_from, y_text_from, z_text_from⟩ := D.text_from
  obtain ⟨x_number_from, y_number_from, z_number_from⟩ := D.number_from
  obtain ⟨x_slice_of, y_slice_of, z_slice_of⟩ := D.slice_of
  obtain ⟨x_find_in, y_find_in, z_find_in⟩ := D.find_in
  obtain ⟨x_get_from, y_get_from, z_get_from⟩ := D.get_from
  obtain ⟨x_join_all, y_join_all, z_join_all⟩ := D.join_all
  obtain ⟨x_split_text, y_split_text, z_split_text⟩ := D.split_text
  obtain ⟨x_keys_of, y_keys_of, z_keys_of⟩ := D.keys_of
  obtain ⟨x_sorted_list, y_sorted_list, z_sorted_list⟩ := D.sorted_list
  obtain ⟨x_range_to, y_range_to, z_range_to⟩ := D.range_to
  obtain ⟨x_quotient, y_quotient, z_quotient⟩ := D.quotient
  obtain ⟨x_rest_of, y_rest_of, z_rest_of⟩ := D.rest_of
  obtain ⟨x_least_of, y_least_of, z_least_of⟩ := D.least_of
  obtain ⟨x_greatest_of, y_greatest_of, z_greatest_of⟩ := D.greatest_of
  obtain ⟨x_call_function, y_call_function, z_call_function⟩ := D.call_function
  obtain ⟨x_add, y_add, z_add⟩ := D.add
  obtain ⟨x_calculate, y_calculate, z_calculate⟩ := D.calculate
  obtain ⟨x_compare, y_compare, z_compare⟩ := D.compare
  obtain ⟨x_operate, y_operate, z_operate⟩ := D.operate
  obtain ⟨x_evaluate_all, y_evaluate_all, z_evaluate_all⟩ := D.evaluate_all
  obtain ⟨x_evaluate_binary, y_evaluate_binary, z_evaluate_binary⟩ := D.evaluate_binary
  obtain ⟨x_evaluate_choice, y_evaluate_choice, z_evaluate_choice⟩ := D.evaluate_choice
  obtain ⟨x_evaluate_gathering, y_evaluate_gathering, z_evaluate_gathering⟩ := D.evaluate_gathering
  obtain ⟨x_evaluate_made, y_evaluate_made, z_evaluate_made⟩ := D.evaluate_made
  obtain ⟨x_evaluate_part, y_evaluate_part, z_evaluate_part⟩ := D.evaluate_part
  obtain ⟨x_evaluate, y_evaluate, z_evaluate⟩ := D.evaluate
  obtain ⟨x_l_cell, y_l_cell, z_l_cell⟩ := D.l_cell
  obtain ⟨x_l_start, y_l_start, z_l_start⟩ := D.l_start
  obtain ⟨x_l_digit, y_l_digit, z_l_digit⟩ := D.l_digit
  obtain ⟨x_l_text, y_l_text, z_l_text⟩ := D.l_text
  obtain ⟨x_l_number, y_l_number, z_l_number⟩ := D.l_number
  obtain ⟨x_l_value, y_l_value, z_l_value⟩ := D.l_value
  obtain ⟨x_l_kind, y_l_kind, z_l_kind⟩ := D.l_kind
  obtain ⟨x_l_same, y_l_same, z_l_same⟩ := D.l_same
  obtain ⟨x_l_parts, y_l_parts, z_l_parts⟩ := D.l_parts
  obtain ⟨x_l_depth, y_l_depth, z_l_depth⟩ := D.l_depth
  obtain ⟨x_l_size, y_l_size, z_l_size⟩ := D.l_size
  obtain ⟨x_l_text_of, y_l_text_of, z_l_text_of⟩ := D.l_text_of
  obtain ⟨x_l_made, y_l_made, z_l_made⟩ := D.l_made
  obtain ⟨x_l_bounded, y_l_bounded, z_l_bounded⟩ := D.l_bounded
  obtain ⟨x_l_joined, y_l_joined, z_l_joined⟩ := D.l_joined
  obtain ⟨x_l_quotient, y_l_quotient, z_l_quotient⟩ := D.l_quotient
  obtain ⟨x_l_sum, y_l_sum, z_l_sum⟩ := D.l_sum
  obtain ⟨x_l_operate, y_l_operate, z_l_operate⟩ := D.l_operate
  obtain ⟨x_l_at, y_l_at, z_l_at⟩ := D.l_at
  obtain ⟨x_l_field, y_l_field, z_l_field⟩ := D.l_field
  obtain ⟨x_l_call, y_l_call, z_l_call⟩ := D.l_call
  obtain ⟨x_l_evaluated, y_l_evaluated, z_l_evaluated⟩ := D.l_evaluated
  obtain ⟨x_l_right, y_l_right, z_l_right⟩ := D.l_right
  obtain ⟨x_l_literal, y_l_literal, z_l_literal⟩ := D.l_literal
  obtain ⟨x_l_leaf, y_l_leaf, z_l_leaf⟩ := D.l_leaf
  obtain ⟨x_l_function, y_l_function, z_l_function⟩ := D.l_function
  obtain ⟨x_l_many, y_l_many, z_l_many⟩ := D.l_many
  obtain ⟨x_l_made_of, y_l_made_of, z_l_made_of⟩ := D.l_made_of
  obtain ⟨x_l_signed, y_l_signed, z_l_signed⟩ := D.l_signed
  obtain ⟨x_l_expression, y_l_expression, z_l_expression⟩ := D.l_expression
  obtain ⟨x_l_environment, y_l_environment, z_l_environment⟩ := D.l_environment
  obtain ⟨x_l_all, y_l_all, z_l_all⟩ := D.l_all
  obtain ⟨x_l_boolean, y_l_boolean, z_l_boolean⟩ := D.l_boolean
  obtain ⟨x_l_gathered, y_l_gathered, z_l_gathered⟩ := D.l_gathered
  obtain ⟨x_l_two, y_l_two, z_l_two⟩ := D.l_two
  obtain ⟨x_l_one, y_l_one, z_l_one⟩ := D.l_one
  obtain ⟨x_l_written, y_l_written, z_l_written⟩ := D.l_written
  obtain ⟨x_l_eval, y_l_eval, z_l_eval⟩ := D.l_eval
  obtain ⟨x_l_spoil, y_l_spoil, z_l_spoil⟩ := D.l_spoil
  obtain ⟨C, fI, V, T1, T2⟩ := Fl
  obtain ⟨d, F⟩ := Fs
  obtain ⟨f, fd, z, zb⟩ := L
  have e : f = fa := ref_eq z.g hmg
  subst e
  obtain ⟨u_length, v_length, w_length⟩ := F.length.at_
  have e_length : x_length_of = u_length := ref_eq z_length_of.g v_length
  subst e_length
  obtain ⟨u_text, v_text, w_text⟩ := F.text.at_
  have e_text : x_text_from = u_text := ref_eq z_text_from.g v_text
  subst e_text
  obtain ⟨u_get, v_get, w_get⟩ := F.get.at_
  have e_get : x_get_from = u_get := ref_eq z_get_from.g v_get
  subst e_get
  obtain ⟨u_keys, v_keys, w_keys⟩ := F.keys.at_
  have e_keys : x_keys_of = u_keys := ref_eq z_keys_of.g v_keys
  subst e_keys
  obtain ⟨u_min, v_min, w_min⟩ := F.min.at_
  have e_min : x_least_of = u_min := ref_eq z_least_of.g v_min
  subst e_min
  obtain ⟨u_max, v_max, w_max⟩ := F.max.at_
  have e_max : x_greatest_of = u_max := ref_eq z_greatest_of.g v_max
  subst e_max
  have T : Txt P w K mg { kind_of_value := x_kind_of_value, kind_of_value_d := y_kind_of_value, parts_of := x_parts_of, parts_of_d := y_parts_of, same := x_same, same_d := y_same, same_members := x_same_members, same_members_d := y_same_members, same_fields := x_same_fields, same_fields_d := y_same_fields, depth := x_depth, depth_d := y_depth, size := x_size, size_d := y_size, text_of := x_text_of, text_of_d := y_text_of, copied := x_copied, copied_d := y_copied, bounded_number := x_bounded_number, bounded_number_d := y_bounded_number, bounded_text := x_bounded_text, bounded_text_d := y_bounded_text, bounded := x_bounded, bounded_d := y_bounded, need_boolean := x_need_boolean, need_boolean_d := y_need_boolean, need_number := x_need_number, need_number_d := y_need_number, need_text := x_need_text, need_text_d := y_need_text, need_list := x_need_list, need_list_d := y_need_list, need_record := x_need_record, need_record_d := y_need_record, need_row := x_need_row, need_row_d := y_need_row, field_of := x_field_of, field_of_d := y_field_of, has_place := x_has_place, has_place_d := y_has_place, at_place := x_at_place, at_place_d := y_at_place, length_of := x_length_of, length_of_d := y_length_of, text_from := x_text_from, text_from_d := y_text_from, number_from := x_number_from, number_from_d := y_number_from, slice_of := x_slice_of, slice_of_d := y_slice_of, find_in := x_find_in, find_in_d := y_find_in, get_from := x_get_from, get_from_d := y_get_from, join_all := x_join_all, join_all_d := y_join_all, split_text := x_split_text, split_text_d := y_split_text, keys_of := x_keys_of, keys_of_d := y_keys_of, sorted_list := x_sorted_list, sorted_list_d := y_sorted_list, range_to := x_range_to, range_to_d := y_range_to, quotient := x_quotient, quotient_d := y_quotient, rest_of := x_rest_of, rest_of_d := y_rest_of, least_of := x_least_of, least_of_d := y_least_of, greatest_of := x_greatest_of, greatest_of_d := y_greatest_of, call_function := x_call_function, call_function_d := y_call_function, add := x_add, add_d := y_add, calculate := x_calculate, calculate_d := y_calculate, compare := x_compare, compare_d := y_compare, operate := x_operate, operate_d := y_operate, evaluate_all := x_evaluate_all, evaluate_all_d := y_evaluate_all, evaluate_binary := x_evaluate_binary, evaluate_binary_d := y_evaluate_binary, evaluate_choice := x_evaluate_choice, evaluate_choice_d := y_evaluate_choice, evaluate_gathering := x_evaluate_gathering, evaluate_gathering_d := y_evaluate_gathering, evaluate_made := x_evaluate_made, evaluate_made_d := y_evaluate_made, evaluate_part := x_evaluate_part, evaluate_part_d := y_evaluate_part, evaluate := x_evaluate, evaluate_d := y_evaluate, l_cell := x_l_cell, l_cell_d := y_l_cell, l_start := x_l_start, l_start_d := y_l_start, l_digit := x_l_digit, l_digit_d := y_l_digit, l_text := x_l_text, l_text_d := y_l_text, l_number := x_l_number, l_number_d := y_l_number, l_value := x_l_value, l_value_d := y_l_value, l_kind := x_l_kind, l_kind_d := y_l_kind, l_same := x_l_same, l_same_d := y_l_same, l_parts := x_l_parts, l_parts_d := y_l_parts, l_depth := x_l_depth, l_depth_d := y_l_depth, l_size := x_l_size, l_size_d := y_l_size, l_text_of := x_l_text_of, l_text_of_d := y_l_text_of, l_made := x_l_made, l_made_d := y_l_made, l_bounded := x_l_bounded, l_bounded_d := y_l_bounded, l_joined := x_l_joined, l_joined_d := y_l_joined, l_quotient := x_l_quotient, l_quotient_d := y_l_quotient, l_sum := x_l_sum, l_sum_d := y_l_sum, l_operate := x_l_operate, l_operate_d := y_l_operate, l_at := x_l_at, l_at_d := y_l_at, l_field := x_l_field, l_field_d := y_l_field, l_call := x_l_call, l_call_d := y_l_call, l_evaluated := x_l_evaluated, l_evaluated_d := y_l_evaluated, l_right := x_l_right, l_right_d := y_l_right, l_literal := x_l_literal, l_literal_d := y_l_literal, l_leaf := x_l_leaf, l_leaf_d := y_l_leaf, l_function := x_l_function, l_function_d := y_l_function, l_many := x_l_many, l_many_d := y_l_many, l_made_of := x_l_made_of, l_made_of_d := y_l_made_of, l_signed := x_l_signed, l_signed_d := y_l_signed, l_expression := x_l_expression, l_expression_d := y_l_expression, l_environment := x_l_environment, l_environment_d := y_l_environment, l_all := x_l_all, l_all_d := y_l_all, l_boolean := x_l_boolean, l_boolean_d := y_l_boolean, l_gathered := x_l_gathered, l_gathered_d := y_l_gathered, l_two := x_l_two, l_two_d := y_l_two, l_one := x_l_one, l_one_d := y_l_one, l_written := x_l_written, l_written_d := y_l_written, l_eval := x_l_eval, l_eval_d := y_l_eval, l_spoil := x_l_spoil, l_spoil_d := y_l_spoil, l_law := f, l_law_d := fd, flt := C, fltI := fI, vwe := V, funs := d } :=
    { kind_of_value := z_kind_of_value, parts_of := z_parts_of, same := z_same, same_members := z_same_members, same_fields := z_same_fields, depth := z_depth, size := z_size, text_of := z_text_of, copied := z_copied, bounded_number := z_bounded_number, bounded_text := z_bounded_text, bounded := z_bounded, need_boolean := z_need_boolean, need_number := z_need_number, need_text := z_need_text, need_list := z_need_list, need_record := z_need_record, need_row := z_need_row, field_of := z_field_of, has_place := z_has_place, at_place := z_at_place, length_of := z_length_of, text_from := z_text_from, number_from := z_number_from, slice_of := z_slice_of, find_in := z_find_in, get_from := z_get_from, join_all := z_join_all, split_text := z_split_text, keys_of := z_keys_of, sorted_list := z_sorted_list, range_to := z_range_to, quotient := z_quotient, rest_of := z_rest_of, least_of := z_least_of, greatest_of := z_greatest_of, call_function := z_call_function, add := z_add, calculate := z_calculate, compare := z_compare, operate := z_operate, evaluate_all := z_evaluate_all, evaluate_binary := z_evaluate_binary, evaluate_choice := z_evaluate_choice, evaluate_gathering := z_evaluate_gathering, evaluate_made := z_evaluate_made, evaluate_part := z_evaluate_part, evaluate := z_evaluate, l_cell := z_l_cell, l_start := z_l_start, l_digit := z_l_digit, l_text := z_l_text, l_number := z_l_number, l_value := z_l_value, l_kind := z_l_kind, l_same := z_l_same, l_parts := z_l_parts, l_depth := z_l_depth, l_size := z_l_size, l_text_of := z_l_text_of, l_made := z_l_made, l_bounded := z_l_bounded, l_joined := z_l_joined, l_quotient := z_l_quotient, l_sum := z_l_sum, l_operate := z_l_operate, l_at := z_l_at, l_field := z_l_field, l_call := z_l_call, l_evaluated := z_l_evaluated, l_right := z_l_right, l_literal := z_l_literal, l_leaf := z_l_leaf, l_function := z_l_function, l_many := z_l_many, l_made_of := z_l_made_of, l_signed := z_l_signed, l_expression := z_l_expression, l_environment := z_l_environment, l_all := z_l_all, l_boolean := z_l_boolean, l_gathered := z_l_gathered, l_two := z_l_two, l_one := z_l_one, l_written := z_l_written, l_eval := z_l_eval, l_spoil := z_l_spoil,
      b_len := Bl.b_len, b_isinstance := Bl.b_isinstance, b_bool := Bl.b_bool, b_int := Bl.b_int, b_str := Bl.b_str, b_list := Bl.b_list, b_dict := Bl.b_dict, b_tuple := Bl.b_tuple, b_abs := Bl.b_abs, b_max := Bl.b_max, b_min := Bl.b_min, b_sum := Bl.b_sum, b_sorted := Bl.b_sorted, b_range := Bl.b_range, b_repr := Bl.b_repr,
      c_MOST_NUMBER := Cs.c_MOST_NUMBER, c_MOST_CHARACTERS := Cs.c_MOST_CHARACTERS, c_MOST_MEMBERS := Cs.c_MOST_MEMBERS, c_MOST_DEPTH := Cs.c_MOST_DEPTH, c_MOST_SIZE := Cs.c_MOST_SIZE,
      fns := ⟨d, F.g, fun x => match x with | .length => w_length | .text => w_text | .get => w_get | .keys => w_keys | .min => w_min | .max => w_max⟩, flt := T1, fis := T2 }
  exact ⟨fd, zb, fun base hi hns hs => law_run T B hs z.F⟩
end K19
open PySem PySem.W PyProof.Rows
set_option maxRecDepth 100000 in
set_option maxHeartbeats 0 in
theorem PySem.Challenge.cw_viewloom_k19_whole_expressions_holds : PySem.Challenge.rw_viewloom_k19_whole_expressions.Holds := by
  w_on; o_law; k_head; (case hw => w_witness2)
  k_fill
  refine K19.law_walk (l := PySem.Challenge.rw_viewloom_k19_whole_expressions) (B := 1048576) rfl rfl rfl ?hq (fun w h Y => PySem.W.kIn_of Y) ?F
  case hq => rfl
  case F =>
    intro w mg fa h X G hmg
    refine K19.fin (h := h) hmg ?D ?L ?Bl ?Cs ?Fs ?Fl
    case D =>
      constructor
      case kind_of_value => (refine' K19.def_mk X G K19.hb_kind_of_value ?a ?l ?c ?k; (case a => k_is); (case l => k_is); (case c => k_is); (case k => k_is))
      case parts_of => (refine' K19.def_mk X G K19.hb_parts_of ?a ?l ?c ?k; (case a => k_is); (case l => k_is); (case c => k_is); (case k => k_is))
      case same => (refine' K19.def_mk X G K19.hb_same ?a ?l ?c ?k; (case a => k_is); (case l => k_is); (case c => k_is); (case k => k_is))
      case same_members => (refine' K19.def_mk X G K19.hb_same_members ?a ?l ?c ?k; (case a => k_is); (case l => k_is); (case c => k_is); (case k => k_is))
      case same_fields => (refine' K19.def_mk X G K19.hb_same_fields ?a ?l ?c ?k; (case a => k_is); (case l => k_is); (case c => k_is); (case k => k_is))
      case depth => (refine' K19.def_mk X G K19.hb_depth ?a ?l ?c ?k; (case a => k_is); (case l => k_is); (case c => k_is); (case k => k_is))
      case size => (refine' K19.def_mk X G K19.hb_size ?a ?l ?c ?k; (case a => k_is); (case l => k_is); (case c => k_is); (case k => k_is))
      case text_of => (refine' K19.def_mk X G K19.hb_text_of ?a ?l ?c ?k; (case a => k_is); (case l => k_is); (case c => k_is); (case k => k_is))
      case copied => (refine' K19.def_mk X G K19.hb_copied ?a ?l ?c ?k; (case a => k_is); (case l => k_is); (case c => k_is); (case k => k_is))
      case bounded_number => (refine' K19.def_mk X G K19.hb_bounded_number ?a ?l ?c ?k; (case a => k_is); (case l => k_is); (case c => k_is); (case k => k_is))
      case bounded_text => (refine' K19.def_mk X G K19.hb_bounded_text ?a ?l ?c ?k; (case a => k_is); (case l => k_is); (case c => k_is); (case k => k_is))
      case bounded => (refine' K19.def_mk X G K19.hb_bounded ?a ?l ?c ?k; (case a => k_is); (case l => k_is); (case c => k_is); (case k => k_is))
      case need_boolean => (refine' K19.def_mk X G K19.hb_need_boolean ?a ?l ?c ?k; (case a => k_is); (case l => k_is); (case c => k_is); (case k => k_is))
      case need_number => (refine' K19.def_mk X G K19.hb_need_number ?a ?l ?c ?k; (case a => k_is); (case l => k_is); (case c => k_is); (case k => k_is))
      case need_text => (refine' K19.def_mk X G K19.hb_need_text ?a ?l ?c ?k; (case a => k_is); (case l => k_is); (case c => k_is); (case k => k_is))
      case need_list => (refine' K19.def_mk X G K19.hb_need_list ?a ?l ?c ?k; (case a => k_is); (case l => k_is); (case c => k_is); (case k => k_is))
      case need_record => (refine' K19.def_mk X G K19.hb_need_record ?a ?l ?c ?k; (case a => k_is); (case l => k_is); (case c => k_is); (case k => k_is))
      case need_row => (refine' K19.def_mk X G K19.hb_need_row ?a ?l ?c ?k; (case a => k_is); (case l => k_is); (case c => k_is); (case k => k_is))
      case field_of => (refine' K19.def_mk X G K19.hb_field_of ?a ?l ?c ?k; (case a => k_is); (case l => k_is); (case c => k_is); (case k => k_is))
      case has_place => (refine' K19.def_mk X G K19.hb_has_place ?a ?l ?c ?k; (case a => k_is); (case l => k_is); (case c => k_is); (case k => k_is))
      case at_place => (refine' K19.def_mk X G K19.hb_at_place ?a ?l ?c ?k; (case a => k_is); (case l => k_is); (case c => k_is); (case k => k_is))
      case length_of => (refine' K19.def_mk X G K19.hb_length_of ?a ?l ?c ?k; (case a => k_is); (case l => k_is); (case c => k_is); (case k => k_is))
      case text_from => (refine' K19.def_mk X G K19.hb_text_from ?a ?l ?c ?k; (case a => k_is); (case l => k_is); (case c => k_is); (case k => k_is))
      case number_from => (refine' K19.def_mk X G K19.hb_number_from ?a ?l ?c ?k; (case a => k_is); (case l => k_is); (case c => k_is); (case k => k_is))
      case slice_of => (refine' K19.def_mk X G K19.hb_slice_of ?a ?l ?c ?k; (case a => k_is); (case l => k_is); (case c => k_is); (case k => k_is))
      case find_in => (refine' K19.def_mk X G K19.hb_find_in ?a ?l ?c ?k; (case a => k_is); (case l => k_is); (case c => k_is); (case k => k_is))
      case get_from => (refine' K19.def_mk X G K19.hb_get_from ?a ?l ?c ?k; (case a => k_is); (case l => k_is); (case c => k_is); (case k => k_is))
      case join_all => (refine' K19.def_mk X G K19.hb_join_all ?a ?l ?c ?k; (case a => k_is); (case l => k_is); (case c => k_is); (case k => k_is))
      case split_text => (refine' K19.def_mk X G K19.hb_split_text ?a ?l ?c ?k; (case a => k_is); (case l => k_is); (case c => k_is); (case k => k_is))
      case keys_of => (refine' K19.def_mk X G K19.hb_keys_of ?a ?l ?c ?k; (case a => k_is); (case l => k_is); (case c => k_is); (case k => k_is))
      case sorted_list => (refine' K19.def_mk X G K19.hb_sorted_list ?a ?l ?c ?k; (case a => k_is); (case l => k_is); (case c => k_is); (case k => k_is))
      case range_to => (refine' K19.def_mk X G K19.hb_range_to ?a ?l ?c ?k; (case a => k_is); (case l => k_is); (case c => k_is); (case k => k_is))
      case quotient => (refine' K19.def_mk X G K19.hb_quotient ?a ?l ?c ?k; (case a => k_is); (case l => k_is); (case c => k_is); (case k => k_is))
      case rest_of => (refine' K19.def_mk X G K19.hb_rest_of ?a ?l ?c ?k; (case a => k_is); (case l => k_is); (case c => k_is); (case k => k_is))
      case least_of => (refine' K19.def_mk X G K19.hb_least_of ?a ?l ?c ?k; (case a => k_is); (case l => k_is); (case c => k_is); (case k => k_is))
      case greatest_of => (refine' K19.def_mk X G K19.hb_greatest_of ?a ?l ?c ?k; (case a => k_is); (case l => k_is); (case c => k_is); (case k => k_is))
      case call_function => (refine' K19.def_mk X G K19.hb_call_function ?a ?l ?c ?k; (case a => k_is); (case l => k_is); (case c => k_is); (case k => k_is))
      case add => (refine' K19.def_mk X G K19.hb_add ?a ?l ?c ?k; (case a => k_is); (case l => k_is); (case c => k_is); (case k => k_is))
      case calculate => (refine' K19.def_mk X G K19.hb_calculate ?a ?l ?c ?k; (case a => k_is); (case l => k_is); (case c => k_is); (case k => k_is))
      case compare => (refine' K19.def_mk X G K19.hb_compare ?a ?l ?c ?k; (case a => k_is); (case l => k_is); (case c => k_is); (case k => k_is))
      case operate => (refine' K19.def_mk X G K19.hb_operate ?a ?l ?c ?k; (case a => k_is); (case l => k_is); (case c => k_is); (case k => k_is))
      case evaluate_all => (refine' K19.def_mk X G K19.hb_evaluate_all ?a ?l ?c ?k; (case a => k_is); (case l => k_is); (case c => k_is); (case k => k_is))
      case evaluate_binary => (refine' K19.def_mk X G K19.hb_evaluate_binary ?a ?l ?c ?k; (case a => k_is); (case l => k_is); (case c => k_is); (case k => k_is))
      case evaluate_choice => (refine' K19.def_mk X G K19.hb_evaluate_choice ?a ?l ?c ?k; (case a => k_is); (case l => k_is); (case c => k_is); (case k => k_is))
      case evaluate_gathering => (refine' K19.def_mk X G K19.hb_evaluate_gathering ?a ?l ?c ?k; (case a => k_is); (case l => k_is); (case c => k_is); (case k => k_is))
      case evaluate_made => (refine' K19.def_mk X G K19.hb_evaluate_made ?a ?l ?c ?k; (case a => k_is); (case l => k_is); (case c => k_is); (case k => k_is))
      case evaluate_part => (refine' K19.def_mk X G K19.hb_evaluate_part ?a ?l ?c ?k; (case a => k_is); (case l => k_is); (case c => k_is); (case k => k_is))
      case evaluate => (refine' K19.def_mk X G K19.hb_evaluate ?a ?l ?c ?k; (case a => k_is); (case l => k_is); (case c => k_is); (case k => k_is))
      case l_cell => (refine' K19.def_mk X G K19.hb_l_cell ?a ?l ?c ?k; (case a => k_is); (case l => k_is); (case c => k_is); (case k => k_is))
      case l_start => (refine' K19.def_mk X G K19.hb_l_start ?a ?l ?c ?k; (case a => k_is); (case l => k_is); (case c => k_is); (case k => k_is))
      case l_digit => (refine' K19.def_mk X G K19.hb_l_digit ?a ?l ?c ?k; (case a => k_is); (case l => k_is); (case c => k_is); (case k => k_is))
      case l_text => (refine' K19.def_mk X G K19.hb_l_text ?a ?l ?c ?k; (case a => k_is); (case l => k_is); (case c => k_is); (case k => k_is))
      case l_number => (refine' K19.def_mk X G K19.hb_l_number ?a ?l ?c ?k; (case a => k_is); (case l => k_is); (case c => k_is); (case k => k_is))
      case l_value => (refine' K19.def_mk X G K19.hb_l_value ?a ?l ?c ?k; (case a => k_is); (case l => k_is); (case c => k_is); (case k => k_is))
      case l_kind => (refine' K19.def_mk X G K19.hb_l_kind ?a ?l ?c ?k; (case a => k_is); (case l => k_is); (case c => k_is); (case k => k_is))
      case l_same => (refine' K19.def_mk X G K19.hb_l_same ?a ?l ?c ?k; (case a => k_is); (case l => k_is); (case c => k_is); (case k => k_is))
      case l_parts => (refine' K19.def_mk X G K19.hb_l_parts ?a ?l ?c ?k; (case a => k_is); (case l => k_is); (case c => k_is); (case k => k_is))
      case l_depth => (refine' K19.def_mk X G K19.hb_l_depth ?a ?l ?c ?k; (case a => k_is); (case l => k_is); (case c => k_is); (case k => k_is))
      case l_size => (refine' K19.def_mk X G K19.hb_l_size ?a ?l ?c ?k; (case a => k_is); (case l => k_is); (case c => k_is); (case k => k_is))
      case l_text_of => (refine' K19.def_mk X G K19.hb_l_text_of ?a ?l ?c ?k; (case a => k_is); (case l => k_is); (case c => k_is); (case k => k_is))
      case l_made => (refine' K19.def_mk X G K19.hb_l_made ?a ?l ?c ?k; (case a => k_is); (case l => k_is); (case c => k_is); (case k => k_is))
      case l_bounded => (refine' K19.def_mk X G K19.hb_l_bounded ?a ?l ?c ?k; (case a => k_is); (case l => k_is); (case c => k_is); (case k => k_is))
      case l_joined => (refine' K19.def_mk X G K19.hb_l_joined ?a ?l ?c ?k; (case a => k_is); (case l => k_is); (case c => k_is); (case k => k_is))
      case l_quotient => (refine' K19.def_mk X G K19.hb_l_quotient ?a ?l ?c ?k; (case a => k_is); (case l => k_is); (case c => k_is); (case k => k_is))
      case l_sum => (refine' K19.def_mk X G K19.hb_l_sum ?a ?l ?c ?k; (case a => k_is); (case l => k_is); (case c => k_is); (case k => k_is))
      case l_operate => (refine' K19.def_mk X G K19.hb_l_operate ?a ?l ?c ?k; (case a => k_is); (case l => k_is); (case c => k_is); (case k => k_is))
      case l_at => (refine' K19.def_mk X G K19.hb_l_at ?a ?l ?c ?k; (case a => k_is); (case l => k_is); (case c => k_is); (case k => k_is))
      case l_field => (refine' K19.def_mk X G K19.hb_l_field ?a ?l ?c ?k; (case a => k_is); (case l => k_is); (case c => k_is); (case k => k_is))
      case l_call => (refine' K19.def_mk X G K19.hb_l_call ?a ?l ?c ?k; (case a => k_is); (case l => k_is); (case c => k_is); (case k => k_is))
      case l_evaluated => (refine' K19.def_mk X G K19.hb_l_evaluated ?a ?l ?c ?k; (case a => k_is); (case l => k_is); (case c => k_is); (case k => k_is))
      case l_right => (refine' K19.def_mk X G K19.hb_l_right ?a ?l ?c ?k; (case a => k_is); (case l => k_is); (case c => k_is); (case k => k_is))
      case l_literal => (refine' K19.def_mk X G K19.hb_l_literal ?a ?l ?c ?k; (case a => k_is); (case l => k_is); (case c => k_is); (case k => k_is))
      case l_leaf => (refine' K19.def_mk X G K19.hb_l_leaf ?a ?l ?c ?k; (case a => k_is); (case l => k_is); (case c => k_is); (case k => k_is))
      case l_function => (refine' K19.def_mk X G K19.hb_l_function ?a ?l ?c ?k; (case a => k_is); (case l => k_is); (case c => k_is); (case k => k_is))
      case l_many => (refine' K19.def_mk X G K19.hb_l_many ?a ?l ?c ?k; (case a => k_is); (case l => k_is); (case c => k_is); (case k => k_is))
      case l_made_of => (refine' K19.def_mk X G K19.hb_l_made_of ?a ?l ?c ?k; (case a => k_is); (case l => k_is); (case c => k_is); (case k => k_is))
      case l_signed => (refine' K19.def_mk X G K19.hb_l_signed ?a ?l ?c ?k; (case a => k_is); (case l => k_is); (case c => k_is); (case k => k_is))
      case l_expression => (refine' K19.def_mk X G K19.hb_l_expression ?a ?l ?c ?k; (case a => k_is); (case l => k_is); (case c => k_is); (case k => k_is))
      case l_environment => (refine' K19.def_mk X G K19.hb_l_environment ?a ?l ?c ?k; (case a => k_is); (case l => k_is); (case c => k_is); (case k => k_is))
      case l_all => (refine' K19.def_mk X G K19.hb_l_all ?a ?l ?c ?k; (case a => k_is); (case l => k_is); (case c => k_is); (case k => k_is))
      case l_boolean => (refine' K19.def_mk X G K19.hb_l_boolean ?a ?l ?c ?k; (case a => k_is); (case l => k_is); (case c => k_is); (case k => k_is))
      case l_gathered => (refine' K19.def_mk X G K19.hb_l_gathered ?a ?l ?c ?k; (case a => k_is); (case l => k_is); (case c => k_is); (case k => k_is))
      case l_two => (refine' K19.def_mk X G K19.hb_l_two ?a ?l ?c ?k; (case a => k_is); (case l => k_is); (case c => k_is); (case k => k_is))
      case l_one => (refine' K19.def_mk X G K19.hb_l_one ?a ?l ?c ?k; (case a => k_is); (case l => k_is); (case c => k_is); (case k => k_is))
      case l_written => (refine' K19.def_mk X G K19.hb_l_written ?a ?l ?c ?k; (case a => k_is); (case l => k_is); (case c => k_is); (case k => k_is))
      case l_eval => (refine' K19.def_mk X G K19.hb_l_eval ?a ?l ?c ?k; (case a => k_is); (case l => k_is); (case c => k_is); (case k => k_is))
      case l_spoil => (refine' K19.def_mk X G K19.hb_l_spoil ?a ?l ?c ?k; (case a => k_is); (case l => k_is); (case c => k_is); (case k => k_is))
    case L => (refine' K19.law_mk X G ?a ?l ?c ?k; (case a => k_is); (case l => k_is); (case c => k_is); (case k => k_is))
    case Bl =>
      constructor
      case b_len => (refine' PySem.W.mg_none_of X G ?a; (case a => k_is))
      case b_isinstance => (refine' PySem.W.mg_none_of X G ?a; (case a => k_is))
      case b_bool => (refine' PySem.W.mg_none_of X G ?a; (case a => k_is))
      case b_int => (refine' PySem.W.mg_none_of X G ?a; (case a => k_is))
      case b_str => (refine' PySem.W.mg_none_of X G ?a; (case a => k_is))
      case b_list => (refine' PySem.W.mg_none_of X G ?a; (case a => k_is))
      case b_dict => (refine' PySem.W.mg_none_of X G ?a; (case a => k_is))
      case b_tuple => (refine' PySem.W.mg_none_of X G ?a; (case a => k_is))
      case b_abs => (refine' PySem.W.mg_none_of X G ?a; (case a => k_is))
      case b_max => (refine' PySem.W.mg_none_of X G ?a; (case a => k_is))
      case b_min => (refine' PySem.W.mg_none_of X G ?a; (case a => k_is))
      case b_sum => (refine' PySem.W.mg_none_of X G ?a; (case a => k_is))
      case b_sorted => (refine' PySem.W.mg_none_of X G ?a; (case a => k_is))
      case b_range => (refine' PySem.W.mg_none_of X G ?a; (case a => k_is))
      case b_repr => (refine' PySem.W.mg_none_of X G ?a; (case a => k_is))
    case Cs =>
      constructor
      case c_MOST_NUMBER => (refine' K19.cst_mk X G ?a ?e; (case a => k_is); (case e => rfl))
      case c_MOST_CHARACTERS => (refine' K19.cst_mk X G ?a ?e; (case a => k_is); (case e => rfl))
      case c_MOST_MEMBERS => (refine' K19.cst_mk X G ?a ?e; (case a => k_is); (case e => rfl))
      case c_MOST_DEPTH => (refine' K19.cst_mk X G ?a ?e; (case a => k_is); (case e => rfl))
      case c_MOST_SIZE => (refine' K19.cst_mk X G ?a ?e; (case a => k_is); (case e => rfl))
    case Fs =>
      refine' K19.fns_mk X G ?g ?l ?kl ?a0 ?b0 ?a1 ?b1 ?a2 ?b2 ?a3 ?b3 ?a4 ?b4 ?a5 ?b5
      (case g => k_is); (case l => k_is)
      (case kl => repeat' (first | exact trivial | refine ⟨⟨_, _, rfl, rfl⟩, ?_⟩))
      (case a0 => k_is); (case b0 => k_is); (case a1 => k_is); (case b1 => k_is); (case a2 => k_is); (case b2 => k_is); (case a3 => k_is); (case b3 => k_is); (case a4 => k_is); (case b4 => k_is); (case a5 => k_is); (case b5 => k_is)
    case Fl =>
      refine' K19.flt_mk X G ?aC ?aV ?xL ?rb ?al ?sa ?ga ?gg ?nN ?a1 ?t1 ?kC ?eC ?vC ?tC ?hC ?sf ?oq ?su ?tp ?l1 ?c1 ?l2 ?v2 ?pf ?l3 ?ha ?hn ?ht ?hm ?ki ?ex
      (case aC => k_is)
      (case aV => k_is)
      (case xL => k_is)
      (case rb => rfl)
      (case al => kernel_rfl)
      (case sa => k_is)
      (case ga => k_is)
      (case gg => k_is)
      (case nN => k_is)
      (case a1 => k_is)
      (case t1 => k_is)
      (case kC => k_is)
      (case eC => k_is)
      (case vC => k_is)
      (case tC => k_is)
      (case hC => k_is)
      (case sf => k_is)
      (case oq => k_is)
      (case su => k_is)
      (case tp => rfl)
      (case l1 => k_is)
      (case c1 => k_is)
      (case l2 => k_is)
      (case v2 => rfl)
      (case pf => rfl)
      (case l3 => k_is)
      (case ha => k_is)
      (case hn => k_is)
      (case ht => k_is)
      (case hm => k_is)
      (case ki => kernel_rfl)
      (case ex => kernel_rfl)
